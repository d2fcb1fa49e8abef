import PyProof.Rows.All
import HandS.ForMost
import HandS.ForExc
import HandS.Wide
import HandS.Deep
import HandS.TupAny
import HandS.TupMul
import HandS.Conv
import HandS.Zip
import KE.KDictKeyed
import HandS.Style
import HandS.More
import HandS.IsInst
import PyProof.WalkInts
import PyProof.WalksMore
import HandS.List
import HandS.Text
import HandS.ExcIs
import KE.KExcIs
import HandS.WordsExc
import HandS.ExcValue
import HandS.TupLen
import HandS.WordsDict
import KE.GoesZip
import KE.GoesMore
import HandS.ExcInit
import HandS.ExcField
import KE.KDictDisplayH
import HandS.Lambda
import HandS.EndTab
import KE.SortKeyHeap
import KE.KSortKey
import KE.KDictWalk
import HandS.TupSets
import HandS.Strs
import KE.DatumOrd
import PySem.Challenge.RW_tonguerank_k92_whole_every_ranking
set_option Elab.async false
set_option linter.all false
set_option maxRecDepth 100000
set_option maxHeartbeats 4000000
/-! Tg, part 1: a pure semantics of the Python that the laws use. Data, results, environments, combinators. -/
namespace Tg
open PySem

/-- pure data; scr: the law's script -/
inductive D where
  | non | bl (b : Bool) | int (i : Int) | str (s : List Nat) | tup (ds : List D) | lst (ds : List D) | scr (ns : List Int) | exc (c : String) (fs : List D) | jnk
  | opq (k : Nat)
  deriving Inhabited
/-- objects that may be changed: a list, a dict by texts, an instance with its fields -/
inductive O where
  | lst (ds : List D) | dic (kvs : List (List Nat × D)) | ins (c : String) (fs : List D)
  deriving Inhabited
/-- the address of each token's object -/
class Tkn where
  tk : Nat → Option Addr
/-- no tokens -/
def Tkn.no : Tkn := ⟨fun _ => none⟩

mutual
/-- no list within -/
def D.flat : D → Bool
  | .tup ds => D.flatL ds
  | .lst _ => false
  | .exc _ fs => D.flatL fs
  | .jnk => false
  | _ => true
def D.flatL : List D → Bool
  | [] => true
  | d :: r => D.flat d && D.flatL r
end
mutual
/-- no token within -/
def D.tf : D → Bool
  | .tup ds => D.tfL ds
  | .lst ds => D.tfL ds
  | .exc _ fs => D.tfL fs
  | .opq _ => false
  | _ => true
def D.tfL : List D → Bool
  | [] => true
  | d :: r => D.tf d && D.tfL r
end
mutual
/-- as the library's data -/
def D.py : D → PyData
  | .non => .none
  | .bl b => .bool b
  | .int i => .int i
  | .str s => .str ⟨s.toArray⟩
  | .tup ds => .tuple (D.pyL ds)
  | .lst ds => .list (D.pyL ds)
  | .scr _ => .none
  | .exc _ _ => .none
  | .jnk => .none
  | .opq _ => .none
def D.pyL : List D → List PyData
  | [] => []
  | d :: r => D.py d :: D.pyL r
end
mutual
/-- no exception within, texts of signs, at most n deep -/
def D.shp : Nat → D → Bool
  | _, .non => true
  | _, .bl _ => true
  | _, .int _ => true
  | _, .str s => s.all (· < 0x110000)
  | 0, .tup _ => false
  | n + 1, .tup ds => D.shpL n ds
  | 0, .lst _ => false
  | n + 1, .lst ds => D.shpL n ds
  | _, .scr _ => false
  | _, .exc _ _ => false
  | _, .jnk => false
  | _, .opq _ => false
def D.shpL : Nat → List D → Bool
  | _, [] => true
  | n, d :: r => D.shp n d && D.shpL n r
end

/-- what a run comes to -/
inductive R (α : Type) where
  | ok (a : α) | ex (e : D) | bad
  deriving Inhabited
def R.bind {α β : Type} : R α → (α → R β) → R β
  | .ok a, f => f a
  | .ex e, _ => .ex e
  | .bad, _ => .bad
@[simp] theorem R.bind_ok {α β : Type} (a : α) (f : α → R β) : (R.ok a).bind f = f a := rfl
@[simp] theorem R.bind_ex {α β : Type} (e : D) (f : α → R β) : (R.ex e : R α).bind f = .ex e := rfl
@[simp] theorem R.bind_bad {α β : Type} (f : α → R β) : (R.bad : R α).bind f = .bad := rfl

/-- what a slot holds: data that no one changes any more, or a list that only this slot may change -/
inductive S where
  | val (d : D) | own (ds : List D) | dct (t : Nat) (kvs : List (List Int × D))
  /-- the store of objects (0: frozen, 1: read, 2: may be changed); a value handed back with the store -/
  | sto (m : Nat) (os : List O) | both (d : D) (os : List O)
  deriving Inhabited
def S.d : S → D
  | .val d => d
  | .own ds => .lst ds
  | .dct _ _ => .jnk
  | .sto _ _ => .jnk
  | .both d _ => d
/-- read by its name -/
def S.rd : S → R S
  | .val d => .ok (.val d)
  | .own ds => .ok (.val (.lst ds))
  | .dct _ _ => .bad
  | .sto _ _ => .bad
  | .both _ _ => .bad
@[simp] theorem S.rd_val (d : D) : (S.val d).rd = .ok (.val d) := rfl
@[simp] theorem S.rd_own (ds : List D) : (S.own ds).rd = .ok (.val (.lst ds)) := rfl
@[simp] theorem S.d_val (d : D) : (S.val d).d = d := rfl
@[simp] theorem S.d_own (ds : List D) : (S.own ds).d = .lst ds := rfl
def S.flat : S → Bool
  | .val d => d.flat
  | .own ds => D.flatL ds
  | .dct _ _ => false
  | .sto _ _ => false
  | .both _ _ => false
@[simp] theorem S.flat_val (d : D) : (S.val d).flat = d.flat := rfl
@[simp] theorem S.flat_own (ds : List D) : (S.own ds).flat = D.flatL ds := rfl

abbrev En := List (Option S)
abbrev Ex := En → R S
abbrev Tx := En → R Bool
abbrev Ax := En → R (List D)
inductive Fl where
  | nx (e : En) | rt (s : S)
abbrev Sx := En → R Fl

def freeze1 (i : Nat) (e : En) : En := match e[i]? with
  | some (some (.own ds)) => e.set i (some (.val (.lst ds)))
  | some (some (.sto 2 _)) => e.set i (some (.both .jnk []))
  | _ => e
def freeze (al : List Nat) (e : En) : En := al.foldl (fun e i => freeze1 i e) e
@[simp] theorem freeze_nil (e : En) : freeze [] e = e := rfl
@[simp] theorem freeze_cons (i : Nat) (al : List Nat) (e : En) : freeze (i :: al) e = freeze al (freeze1 i e) := rfl
mutual
/-- lists whose content is no longer known -/
def D.kill : D → D
  | .tup ds => .tup (D.killL ds)
  | .lst _ => .jnk
  | .exc c fs => .exc c (D.killL fs)
  | .non => .non
  | .bl b => .bl b
  | .int i => .int i
  | .str s => .str s
  | .scr ns => .scr ns
  | .jnk => .jnk
  | .opq k => .opq k
def D.killL : List D → List D
  | [] => []
  | d :: r => D.kill d :: D.killL r
end
def S.kill : S → S
  | .val d => .val d.kill
  | .own ds => .own (D.killL ds)
  | .dct t kvs => .dct t kvs
  | .sto _ _ => .both .jnk []
  | .both _ _ => .both .jnk []
/-- the slots of is, their lists no longer known -/
def killE : List Nat → En → En
  | [], e => e
  | i :: r, e => match e[i]? with
    | some (some s) => (killE r e).set i (some s.kill)
    | _ => killE r e
def keep (al : List Nat) (fl : Bool) (e : En) : En := if fl then e else freeze al e
@[simp] theorem keep_true (al : List Nat) (e : En) : keep al true e = e := rfl
@[simp] theorem keep_false (al : List Nat) (e : En) : keep al false e = freeze al e := rfl
@[simp] theorem keep_nil (fl : Bool) (e : En) : keep [] fl e = e := by cases fl <;> rfl

/-! ### expressions -/
def eVar (i : Nat) : Ex := fun e => match e[i]? with
  | some (some s) => s.rd
  | _ => .bad
def eC (d : D) : Ex := fun _ => .ok (.val d)
abbrev eInt (n : Int) : Ex := eC (.int n)
abbrev eStr (s : List Nat) : Ex := eC (.str s)
abbrev eBl (b : Bool) : Ex := eC (.bl b)
abbrev eNon : Ex := eC .non
def eOp1 (f : D → R S) (a : Ex) : Ex := fun e => (a e).bind fun x => f x.d
def eOp2 (f : D → D → R S) (a b : Ex) : Ex := fun e => (a e).bind fun x => (b e).bind fun y => f x.d y.d
def eOp3 (f : D → D → D → R S) (a b c : Ex) : Ex := fun e => (a e).bind fun x => (b e).bind fun y => (c e).bind fun z => f x.d y.d z.d
def aNil : Ax := fun _ => .ok []
def aCons (a : Ex) (r : Ax) : Ax := fun e => (a e).bind fun x => (r e).bind fun xs => .ok (x.d :: xs)
def eTup (a : Ax) : Ex := fun e => (a e).bind fun ds => .ok (.val (.tup ds))
def eLst (a : Ax) : Ex := fun e => (a e).bind fun ds => .ok (.own ds)
def eCall (f : List D → R S) (a : Ax) : Ex := fun e => (a e).bind f
/-- and, or, not of truths, as values -/
def eAnd (a b : Ex) : Ex := fun e => (a e).bind fun x => match x.d with
  | .bl true => b e
  | .bl false => .ok (.val (.bl false))
  | _ => .bad
def eOr (a b : Ex) : Ex := fun e => (a e).bind fun x => match x.d with
  | .bl true => .ok (.val (.bl true))
  | .bl false => b e
  | _ => .bad
/-! ### tests -/
def tVal (a : Ex) : Tx := fun e => (a e).bind fun x => match x.d with
  | .bl b => .ok b
  | _ => .bad
def tAnd (a b : Tx) : Tx := fun e => (a e).bind fun c => if c = true then b e else .ok false
def tOr (a b : Tx) : Tx := fun e => (a e).bind fun c => if c = true then .ok true else b e
def tNot (a : Tx) : Tx := fun e => (a e).bind fun c => .ok (!c)
def tTrue : Tx := fun _ => .ok true

/-! ### targets, iterators, comprehensions -/
abbrev Tt := D → En → R En
abbrev Tts := List D → En → R En
def gName (i : Nat) : Tt := fun d e => .ok (e.set i (some (.val d)))
def gNil : Tts := fun ds e => match ds with
  | [] => .ok e
  | _ => .bad
def gCons (t : Tt) (u : Tts) : Tts := fun ds e => match ds with
  | d :: r => (t d e).bind fun e' => u r e'
  | [] => .bad
def gTup (n : Nat) (u : Tts) : Tt := fun d e => match d with
  | .tup ds => if ds.length = n then u ds e else .bad
  | _ => .bad
def wipeE (e : En) : List Nat → En
  | [] => e
  | i :: r => (wipeE e r).set i none
@[simp] theorem wipeE_nil (e : En) : wipeE e [] = e := rfl
@[simp] theorem wipeE_cons (e : En) (i : Nat) (r : List Nat) : wipeE e (i :: r) = (wipeE e r).set i none := rfl

def compL (t : Tt) (c : Tx) (m : Ex) (e : En) : List D → R (List D)
  | [] => .ok []
  | d :: r => (t d e).bind fun e' => (c e').bind fun b => match b with
    | true => (m e').bind fun x => (compL t c m e r).bind fun ys => .ok (x.d :: ys)
    | false => compL t c m e r
/-- [m for t in it if c]; vs: the comprehension's own names, al: the slots that the walked thing may share lists with -/
def eComp (al vs : List Nat) (it : Ax) (t : Tt) (c : Tx) (m : Ex) : Ex := fun e => (it e).bind fun ds =>
  match compL t c m (wipeE (freeze al e) vs) ds with
  | .ok ys => if ys.length ≤ 65536 then .ok (.own ys) else .bad
  | _ => .bad

/-! ### statements -/
def sNop : Sx := fun e => .ok (.nx e)
def sSeq (a b : Sx) : Sx := fun e => (a e).bind fun f => match f with
  | .nx e' => b e'
  | .rt s => .ok (.rt s)
def sSet (al : List Nat) (i : Nat) (a : Ex) : Sx := fun e => (a e).bind fun s => .ok (.nx ((keep al s.flat e).set i (some s)))
/-- x = y of two names: what y owns moves to x -/
def sMove (i j : Nat) : Sx := fun e => match e[j]? with
  | some (some (.own ds)) => .ok (.nx ((e.set j none).set i (some (.own ds))))
  | some (some (.val d)) => .ok (.nx (e.set i (some (.val d))))
  | _ => .bad
def sAsg (al : List Nat) (t : Tt) (a : Ex) : Sx := fun e => (a e).bind fun s => (t s.d (keep al s.flat e)).bind fun e' => .ok (.nx e')
def sDrop (a : Ex) : Sx := fun e => (a e).bind fun _ => .ok (.nx e)
def sRet (a : Ex) : Sx := fun e => (a e).bind fun s => .ok (.rt s)
def sRetN : Sx := fun _ => .ok (.rt (.val .non))
/-- return x of a name: what it owns is handed on -/
def S.rt : S → R Fl
  | .val d => .ok (.rt (.val d))
  | .own ds => .ok (.rt (.own ds))
  | .dct _ _ => .bad
  | .sto _ _ => .bad
  | .both _ _ => .bad
@[simp] theorem S.rt_val (d : D) : (S.val d).rt = .ok (.rt (.val d)) := rfl
@[simp] theorem S.rt_own (ds : List D) : (S.own ds).rt = .ok (.rt (.own ds)) := rfl
def sRetV (i : Nat) : Sx := fun e => match e[i]? with
  | some (some s) => s.rt
  | _ => .bad
def sIf (c : Tx) (a b : Sx) : Sx := fun e => (c e).bind fun k => if k = true then a e else b e
def forL (t : Tt) (b : Sx) : List D → Sx
  | [] => fun e => .ok (.nx e)
  | d :: r => fun e => (t d e).bind fun e' => (b e').bind fun f => match f with
    | .nx e2 => forL t b r e2
    | .rt s => .ok (.rt s)
def sFor (al : List Nat) (it : Ax) (t : Tt) (b : Sx) : Sx := fun e => (it e).bind fun ds => forL t b ds (freeze al e)
def whileL (c : Tx) (b : Sx) : Nat → Sx
  | 0 => fun _ => .bad
  | n + 1 => fun e => (c e).bind fun k => match k with
    | true => (b e).bind fun f => match f with
      | .nx e2 => whileL c b n e2
      | .rt s => .ok (.rt s)
    | false => .ok (.nx e)
def sWhile (n : Nat) (c : Tx) (b : Sx) : Sx := whileL c b n
/-- x[k] = v of an owned list -/
def sItem (al : List Nat) (i : Nat) (a k : Ex) : Sx := fun e => (a e).bind fun v => match k e, (keep al v.flat e)[i]? with
  | .ok (.val (.int j)), some (some (.own ds)) => (match L2.ixN ds.length j with
    | some n => .ok (.nx ((keep al v.flat e).set i (some (.own (ds.set n v.d)))))
    | none => .bad)
  | _, _ => .bad
/-- x[k] += v of an owned list of ints -/
def sAug (i : Nat) (a k : Ex) : Sx := fun e => match k e, e[i]? with
  | .ok (.val (.int j)), some (some (.own ds)) => (match L2.ixN ds.length j with
    | some n => (match ds[n]?, a e with
      | some (.int u), .ok (.val (.int v)) => if 0 ≤ j then .ok (.nx (e.set i (some (.own (ds.set n (.int (u + v))))))) else .bad
      | _, _ => .bad)
    | none => .bad)
  | _, _ => .bad
/-- a statement that is not run -/
def sBad : Sx := fun _ => .bad
/-- a list that slot i owns is changed by f -/
def sOwn (al : List Nat) (i : Nat) (f : List D → D → R (List D)) (a : Ex) : Sx := fun e => match e[i]? with
  | some (some (.own _)) => (a e).bind fun x => match (keep al x.flat e)[i]? with
    | some (some (.own ds)) => (f ds x.d).bind fun ds' => .ok (.nx ((keep al x.flat e).set i (some (.own ds'))))
    | _ => .bad
  | _ => .bad
/-- x.append(y.pop(k)), both lists owned -/
def sAppPop (i j : Nat) (k : Ex) : Sx := fun e => match k e, e[i]?, e[j]? with
  | .ok (.val (.int n)), some (some (.own ds)), some (some (.own es)) => (match L2.ixN es.length n with
    | some p => (match es[p]? with
      | some d => if i ≠ j ∧ ds.length ≤ 65536 ∧ es.length ≤ 65536 then .ok (.nx ((e.set j (some (.own (es.eraseIdx p)))).set i (some (.own (ds ++ [d]))))) else .bad
      | none => .bad)
    | none => .bad)
  | _, _, _ => .bad
/-- x.clear(), x owned -/
def sClear (i : Nat) : Sx := fun e => match e[i]? with
  | some (some (.own _)) => .ok (.nx (e.set i (some (.own []))))
  | _ => .bad
/-- x.insert(k, v), x owned -/
def sInsert (al : List Nat) (i : Nat) (k a : Ex) : Sx := fun e => match k e, e[i]? with
  | .ok (.val (.int n)), some (some (.own _)) => (a e).bind fun v => match (keep al v.flat e)[i]? with
    | some (some (.own ds)) => if 0 ≤ n ∧ n ≤ 65536 ∧ ds.length ≤ 65536 then .ok (.nx ((keep al v.flat e).set i (some (.own (ds.take n.toNat ++ [v.d] ++ ds.drop n.toNat))))) else .bad
    | _ => .bad
  | _, _ => .bad

/-- a def: its slots, its body -/
def runB (n : Nat) (b : Sx) (ds : List D) : R S := match b (ds.map (fun d => some (.val d)) ++ List.replicate (n - ds.length) none) with
  | .ok (.rt s) => .ok s
  | .ok (.nx _) => .ok (.val .non)
  | .ex e => .ex e
  | .bad => .bad
end Tg

/-! Tg, part 4: operators over pure data. -/
namespace Tg
open PySem L2

abbrev LIM : Nat := 65536
def vI (i : Int) : R S := .ok (.val (.int i))
def vB (b : Bool) : R S := .ok (.val (.bl b))
def oAdd : D → D → R S
  | .int i, .int j => .ok (.val (.int (i + j)))
  | .str a, .str b => if a.length + b.length ≤ LIM then .ok (.val (.str (a ++ b))) else .bad
  | .tup a, .tup b => if a.length + b.length ≤ LIM then .ok (.val (.tup (a ++ b))) else .bad
  | .lst a, .lst b => if a.length + b.length ≤ LIM then .ok (.own (a ++ b)) else .bad
  | _, _ => .bad
def oSub : D → D → R S
  | .int i, .int j => .ok (.val (.int (i - j)))
  | _, _ => .bad
def oMul : D → D → R S
  | .int i, .int j => if i.natAbs < 2 ^ 200 ∧ j.natAbs < 2 ^ 200 then .ok (.val (.int (i * j))) else .bad
  | .lst a, .int k => if k ≤ 1000 ∧ -1000 ≤ k ∧ a.length ≤ 1000 then .ok (.own (List.replicate k.toNat a).flatten) else .bad
  | .str a, .int k => if k ≤ 1000 ∧ -1000 ≤ k ∧ a.length ≤ 1000 then .ok (.val (.str (List.replicate k.toNat a).flatten)) else .bad
  | .tup a, .int k => if a ≠ [] ∧ (k = 1 ∨ k = 0) then .ok (.val (.tup (if k = 1 then a else []))) else .bad
  | _, _ => .bad
def oFdiv : D → D → R S
  | .int i, .int j => if 0 < j ∧ j.natAbs < 2 ^ 200 then .ok (.val (.int (i / j))) else .bad
  | _, _ => .bad
def oMod : D → D → R S
  | .int i, .int j => if 0 < j then .ok (.val (.int (i % j))) else .bad
  | _, _ => .bad
def oPow : D → D → R S
  | .int i, .int j => if 0 ≤ j ∧ j ≤ 1000 ∧ i.natAbs < 2 ^ 64 then .ok (.val (.int (i ^ j.toNat))) else .bad
  | _, _ => .bad
def oShl : D → D → R S
  | .int i, .int j => if 0 ≤ j ∧ j ≤ 1000 ∧ i.natAbs < 2 ^ 64 then .ok (.val (.int (i * 2 ^ j.toNat))) else .bad
  | _, _ => .bad
def oShr : D → D → R S
  | .int i, .int j => if 0 ≤ j then .ok (.val (.int (i / 2 ^ j.toNat))) else .bad
  | _, _ => .bad
def oAnd : D → D → R S
  | .int i, .int j => .ok (.val (.int (Builtin.bitAnd i j)))
  | _, _ => .bad
def oOr : D → D → R S
  | .int i, .int j => .ok (.val (.int (Builtin.bitOr i j)))
  | _, _ => .bad
def oNeg : D → R S
  | .int i => .ok (.val (.int (-i)))
  | _ => .bad
def oNot : D → R S
  | .bl b => .ok (.val (.bl (!b)))
  | _ => .bad
/-- all ints -/
def D.ints : List D → Option (List Int)
  | [] => some []
  | .int i :: r => (D.ints r).map (i :: ·)
  | _ => none
@[simp] theorem ints_map : ∀ ns : List Int, D.ints (ns.map D.int) = some ns
  | [] => rfl
  | n :: r => by
    show (D.ints (r.map D.int)).map (n :: ·) = _
    rw [ints_map r]
    rfl
theorem ints_some : ∀ {ds : List D} {ns : List Int}, D.ints ds = some ns → ds = ns.map D.int
  | [], ns, h => by cases h; rfl
  | .int i :: r, ns, h => by
    have h' : (D.ints r).map (i :: ·) = some ns := h
    cases q : D.ints r with
    | none => rw [q] at h'; cases h'
    | some m =>
      rw [q] at h'
      cases h'
      rw [ints_some q]
      rfl
  | .non :: r, ns, h => by cases h
  | .bl _ :: r, ns, h => by cases h
  | .str _ :: r, ns, h => by cases h
  | .tup _ :: r, ns, h => by cases h
  | .lst _ :: r, ns, h => by cases h
  | .scr _ :: r, ns, h => by cases h
  | .exc _ _ :: r, ns, h => by cases h
def D.bls : List D → Option (List Bool)
  | [] => some []
  | .bl i :: r => (D.bls r).map (i :: ·)
  | _ => none
@[simp] theorem bls_map : ∀ ns : List Bool, D.bls (ns.map D.bl) = some ns
  | [] => rfl
  | n :: r => by
    show (D.bls (r.map D.bl)).map (n :: ·) = _
    rw [bls_map r]
    rfl
theorem bls_some : ∀ {ds : List D} {ns : List Bool}, D.bls ds = some ns → ds = ns.map D.bl
  | [], ns, h => by cases h; rfl
  | .bl i :: r, ns, h => by
    have h' : (D.bls r).map (i :: ·) = some ns := h
    cases q : D.bls r with
    | none => rw [q] at h'; cases h'
    | some m =>
      rw [q] at h'
      cases h'
      rw [bls_some q]
      rfl
  | .non :: r, ns, h => by cases h
  | .int _ :: r, ns, h => by cases h
  | .str _ :: r, ns, h => by cases h
  | .tup _ :: r, ns, h => by cases h
  | .lst _ :: r, ns, h => by cases h
  | .scr _ :: r, ns, h => by cases h
  | .exc _ _ :: r, ns, h => by cases h
def D.strs : List D → Option (List (List Nat))
  | [] => some []
  | .str i :: r => (D.strs r).map (i :: ·)
  | _ => none
@[simp] theorem strs_map : ∀ ns : List (List Nat), D.strs (ns.map D.str) = some ns
  | [] => rfl
  | n :: r => by
    show (D.strs (r.map D.str)).map (n :: ·) = _
    rw [strs_map r]
    rfl
theorem strs_some : ∀ {ds : List D} {ns : List (List Nat)}, D.strs ds = some ns → ds = ns.map D.str
  | [], ns, h => by cases h; rfl
  | .str i :: r, ns, h => by
    have h' : (D.strs r).map (i :: ·) = some ns := h
    cases q : D.strs r with
    | none => rw [q] at h'; cases h'
    | some m =>
      rw [q] at h'
      cases h'
      rw [strs_some q]
      rfl
  | .non :: r, ns, h => by cases h
  | .int _ :: r, ns, h => by cases h
  | .bl _ :: r, ns, h => by cases h
  | .tup _ :: r, ns, h => by cases h
  | .lst _ :: r, ns, h => by cases h
  | .scr _ :: r, ns, h => by cases h
  | .exc _ _ :: r, ns, h => by cases h

/-- one order: ints, texts; < also of tuples of ints -/
def oLt : D → D → R S
  | .int i, .int j => .ok (.val (.bl (decide (i < j))))
  | .str a, .str b => .ok (.val (.bl (decide (a < b))))
  | .tup a, .tup b => match D.ints a, D.ints b with
    | some ns, some ms => .ok (.val (.bl (HT.lexLt ns ms)))
    | _, _ => .bad
  | _, _ => .bad
def oGt : D → D → R S
  | .int i, .int j => .ok (.val (.bl (decide (j < i))))
  | .str a, .str b => .ok (.val (.bl (decide (b < a))))
  | _, _ => .bad
def oLe : D → D → R S
  | .int i, .int j => .ok (.val (.bl (decide (i ≤ j))))
  | _, _ => .bad
def oGe : D → D → R S
  | .int i, .int j => .ok (.val (.bl (decide (j ≤ i))))
  | _, _ => .bad
def DEP : Nat := 60
/-- == of data -/
def oEq (d c : D) : R S := if d.shp DEP && c.shp DEP then .ok (.val (.bl (PyData.eqv d.py c.py))) else .bad
def oNe (d c : D) : R S := if d.shp DEP && c.shp DEP then .ok (.val (.bl (!PyData.eqv d.py c.py))) else .bad
def isNon : D → Bool
  | .non => true
  | _ => false
def oIsN (d : D) : R S := .ok (.val (.bl (isNon d)))
def oNotN (d : D) : R S := .ok (.val (.bl (!isNon d)))
/-- x in c -/
def oIn : D → D → R S
  | .str [s], .str b => .ok (.val (.bl (decide (s ∈ b))))
  | d, .lst ds => if d.shp DEP && D.shpL DEP ds then .ok (.val (.bl (ds.any fun z => PyData.eqv z.py d.py))) else .bad
  | d, .tup ds => if d.shp DEP && D.shpL DEP ds then .ok (.val (.bl (ds.any fun z => PyData.eqv z.py d.py))) else .bad
  | _, _ => .bad
def oNotIn : D → D → R S
  | .str [s], .str b => .ok (.val (.bl (!decide (s ∈ b))))
  | d, .lst ds => if d.shp DEP && D.shpL DEP ds then .ok (.val (.bl (!ds.any fun z => PyData.eqv z.py d.py))) else .bad
  | d, .tup ds => if d.shp DEP && D.shpL DEP ds then .ok (.val (.bl (!ds.any fun z => PyData.eqv z.py d.py))) else .bad
  | _, _ => .bad
def oItem : D → D → R S
  | .lst ds, .int i => match atI ds i with
    | some d => .ok (.val d)
    | none => .bad
  | .tup ds, .int i => match atI ds i with
    | some d => .ok (.val d)
    | none => .bad
  | .scr ns, .int i => match atI ns i with
    | some n => .ok (.val (.int n))
    | none => .bad
  | .str s, .int i => if s.length ≤ LIM then (match atI s i with
    | some c => .ok (.val (.str [c]))
    | none => .bad) else .bad
  | _, _ => .bad
def cutL {α : Type} (xs : List α) (lo hi : Option Int) : List α := (xs.drop (HT.sIx xs.length 0 lo)).take (HT.sIx xs.length xs.length hi - HT.sIx xs.length 0 lo)
def oSl (lo hi : Option Int) : D → R S
  | .lst ds => .ok (.own (cutL ds lo hi))
  | .tup ds => .ok (.val (.tup (cutL ds lo hi)))
  | .scr ns => .ok (.own ((cutL ns lo hi).map D.int))
  | .str s => if s.length ≤ LIM then .ok (.val (.str (cutL s lo hi))) else .bad
  | _ => .bad
/-- xs[::-1] -/
def oRev : D → R S
  | .lst ds => .ok (.own ds.reverse)
  | _ => .bad
abbrev Ox := En → R (Option Int)
def pNone : Ox := fun _ => .ok none
def pSome (a : Ex) : Ox := fun e => (a e).bind fun s => match s.d with
  | .int i => .ok (some i)
  | _ => .bad
def eSl (a : Ex) (lo hi : Ox) : Ex := fun e => (a e).bind fun s => (lo e).bind fun i => (hi e).bind fun j => oSl i j s.d

/-! built-in functions -/
def oLen : D → R S
  | .lst ds => .ok (.val (.int ds.length))
  | .tup ds => .ok (.val (.int ds.length))
  | .scr ns => .ok (.val (.int ns.length))
  | .str s => if s.length ≤ LIM then .ok (.val (.int s.length)) else .bad
  | _ => .bad
def oList : D → R S
  | .lst ds => .ok (.own ds)
  | .tup ds => .ok (.own ds)
  | _ => .bad
def oTuple : D → R S
  | .lst ds => .ok (.val (.tup ds))
  | .tup ds => .ok (.val (.tup ds))
  | _ => .bad
/-- int of an int or a truth -/
def oInt : D → R S
  | .int i => .ok (.val (.int i))
  | .bl b => .ok (.val (.int (if b then 1 else 0)))
  | _ => .bad
def minI : Int → List Int → Int
  | m, [] => m
  | m, x :: r => minI (if x < m then x else m) r
def maxI : Int → List Int → Int
  | m, [] => m
  | m, x :: r => maxI (if m < x then x else m) r
theorem minI_le : ∀ (r : List Int) (m : Int), minI m r ≤ m ∧ ∀ x ∈ r, minI m r ≤ x
  | [], m => ⟨Int.le_refl _, fun x h => nomatch h⟩
  | y :: r, m => by
    have ih := minI_le r (if y < m then y else m)
    refine ⟨Int.le_trans ih.1 (by split <;> omega), fun x hx => ?_⟩
    rcases List.mem_cons.mp hx with e | hx
    · rw [e]; exact Int.le_trans ih.1 (by split <;> omega)
    · exact ih.2 x hx
theorem minI_mem : ∀ (r : List Int) (m : Int), minI m r ∈ m :: r
  | [], m => List.mem_cons_self
  | y :: r, m => by
    have ih := minI_mem r (if y < m then y else m)
    show minI (if y < m then y else m) r ∈ _
    rcases List.mem_cons.mp ih with e | h
    · rw [e]
      split
      · exact List.mem_cons_of_mem _ List.mem_cons_self
      · exact List.mem_cons_self
    · exact List.mem_cons_of_mem _ (List.mem_cons_of_mem _ h)
theorem maxI_le : ∀ (r : List Int) (m : Int), m ≤ maxI m r ∧ ∀ x ∈ r, x ≤ maxI m r
  | [], m => ⟨Int.le_refl _, fun x h => nomatch h⟩
  | y :: r, m => by
    have ih := maxI_le r (if m < y then y else m)
    refine ⟨Int.le_trans (by split <;> omega) ih.1, fun x hx => ?_⟩
    rcases List.mem_cons.mp hx with e | hx
    · rw [e]; exact Int.le_trans (by split <;> omega) ih.1
    · exact ih.2 x hx
theorem maxI_mem : ∀ (r : List Int) (m : Int), maxI m r ∈ m :: r
  | [], m => List.mem_cons_self
  | y :: r, m => by
    have ih := maxI_mem r (if m < y then y else m)
    show maxI (if m < y then y else m) r ∈ _
    rcases List.mem_cons.mp ih with e | h
    · rw [e]
      split
      · exact List.mem_cons_of_mem _ List.mem_cons_self
      · exact List.mem_cons_self
    · exact List.mem_cons_of_mem _ (List.mem_cons_of_mem _ h)
/-- min, max, sum, any, all of a list -/
def oMin : D → R S
  | .lst ds => match D.ints ds with
    | some (x :: r) => .ok (.val (.int (minI x r)))
    | _ => .bad
  | .tup ds => match D.ints ds with
    | some (x :: r) => .ok (.val (.int (minI x r)))
    | _ => .bad
  | _ => .bad
def oMax : D → R S
  | .lst ds => match D.ints ds with
    | some (x :: r) => .ok (.val (.int (maxI x r)))
    | _ => .bad
  | .tup ds => match D.ints ds with
    | some (x :: r) => .ok (.val (.int (maxI x r)))
    | _ => .bad
  | _ => .bad
def oMax2 : D → D → R S
  | .int i, .int j => .ok (.val (.int (if j > i then j else i)))
  | _, _ => .bad
def oSum : D → R S
  | .lst ds => match D.ints ds with
    | some ns => .ok (.val (.int ns.sum))
    | _ => .bad
  | _ => .bad
def oAny : D → R S
  | .lst ds => match D.bls ds with
    | some bs => .ok (.val (.bl (bs.any id)))
    | _ => .bad
  | _ => .bad
def oAll : D → R S
  | .lst ds => match D.bls ds with
    | some bs => .ok (.val (.bl (bs.all id)))
    | _ => .bad
  | _ => .bad
def insI (x : Int) : List Int → List Int
  | [] => [x]
  | y :: r => if x ≤ y then x :: y :: r else y :: insI x r
def sortI : List Int → List Int
  | [] => []
  | x :: r => insI x (sortI r)
/-- sorted of fewer than 64 ints -/
def oSorted : D → R S
  | .lst ds => match D.ints ds with
    | some ns => if ns.length < 64 then .ok (.own ((sortI ns).map D.int)) else .bad
    | _ => .bad
  | .tup ds => match D.ints ds with
    | some ns => if ns.length < 64 then .ok (.own ((sortI ns).map D.int)) else .bad
    | _ => .bad
  | _ => .bad
/-- isinstance of a built-in class -/
def oIs (c : String) (d : D) : R S := match d with
  | .non => if c = "bool" ∨ c = "int" ∨ c = "str" ∨ c = "tuple" ∨ c = "list" then vB false else .bad
  | .bl _ => if c = "bool" ∨ c = "int" then vB true else if c = "str" ∨ c = "tuple" ∨ c = "list" then vB false else .bad
  | .int _ => if c = "int" then vB true else if c = "bool" ∨ c = "str" ∨ c = "tuple" ∨ c = "list" then vB false else .bad
  | .str _ => if c = "str" then vB true else if c = "bool" ∨ c = "int" ∨ c = "tuple" ∨ c = "list" then vB false else .bad
  | .tup _ => if c = "tuple" then vB true else if c = "bool" ∨ c = "int" ∨ c = "str" ∨ c = "list" then vB false else .bad
  | .lst _ => if c = "list" then vB true else if c = "bool" ∨ c = "int" ∨ c = "str" ∨ c = "tuple" then vB false else .bad
  | _ => .bad
/-- ''.join -/
def joinL (sep : List Nat) : List (List Nat) → List Nat
  | [] => []
  | [x] => x
  | x :: r => x ++ sep ++ joinL sep r
def oJoin : D → D → R S
  | .str sep, .lst ds => match D.strs ds with
    | some xs => if xs.length ≤ 1000 ∧ (∀ x ∈ xs, x.length ≤ 1000) ∧ sep.length ≤ 1000 then .ok (.val (.str (joinL sep xs))) else .bad
    | none => .bad
  | _, _ => .bad
/-- s.find(c), c one sign -/
def findN (c : Nat) : Nat → List Nat → Int
  | _, [] => -1
  | k, x :: r => if x = c then (k : Int) else findN c (k + 1) r
def oFind : D → D → R S
  | .str a, .str [c] => if a.length ≤ LIM then .ok (.val (.int (findN c 0 a))) else .bad
  | _, _ => .bad
/-- the first place of an equal thing -/
def idxN (d : D) : Nat → List D → Option Nat
  | _, [] => none
  | k, x :: r => if PyData.eqv x.py d.py then some k else idxN d (k + 1) r
def oIndex : D → D → R S
  | .lst ds, d => if d.shp DEP && D.shpL DEP ds then (match idxN d 0 ds with
    | some k => .ok (.val (.int k))
    | none => .bad) else .bad
  | _, _ => .bad

/-! what is walked -/
def rangeL (a b : Int) : List D := (List.range (b - a).toNat).map fun (i : Nat) => D.int (a + i)
def aList (a : Ex) : Ax := fun e => (a e).bind fun s => match s.d with
  | .lst ds => .ok ds
  | _ => .bad
def aTup (a : Ex) : Ax := fun e => (a e).bind fun s => match s.d with
  | .tup ds => .ok ds
  | _ => .bad
def aSeq (a : Ex) : Ax := fun e => (a e).bind fun s => match s.d with
  | .lst ds => .ok ds
  | .tup ds => .ok ds
  | _ => .bad
def aStr (a : Ex) : Ax := fun e => (a e).bind fun s => match s.d with
  | .str cs => .ok (cs.map fun c => D.str [c])
  | _ => .bad
def aRange (a b : Ex) : Ax := fun e => (a e).bind fun x => (b e).bind fun y => match x.d, y.d with
  | .int i, .int j => if -1000000 ≤ i ∧ i ≤ 1000000 ∧ -1000000 ≤ j ∧ j ≤ 1000000 then .ok (rangeL i j) else .bad
  | _, _ => .bad
def aRange1 (b : Ex) : Ax := fun e => (b e).bind fun y => match y.d with
  | .int j => if -1000000 ≤ j ∧ j ≤ 1000000 then .ok (rangeL 0 j) else .bad
  | _ => .bad
def zipD : List D → List D → List D
  | a :: r, b :: s => .tup [a, b] :: zipD r s
  | _, _ => []
def enumD : Nat → List D → List D
  | _, [] => []
  | k, d :: r => .tup [.int k, d] :: enumD (k + 1) r
/-- list(range(..)), tuple(range(..)) -/
def mkO (ds : List D) : S := .own ds
def mkT (ds : List D) : S := .val (.tup ds)
def eRg1 (mk : List D → S) (m : Ex) : Ex := fun e => (m e).bind fun y => match y.d with
  | .int j => if -1000000 ≤ j ∧ j ≤ 1000000 then .ok (mk (rangeL 0 j)) else .bad
  | _ => .bad
def eRg2 (mk : List D → S) (m n : Ex) : Ex := fun e => (m e).bind fun x => (n e).bind fun y => match x.d, y.d with
  | .int i, .int j => if -1000000 ≤ i ∧ i ≤ 1000000 ∧ -1000000 ≤ j ∧ j ≤ 1000000 then .ok (mk (rangeL i j)) else .bad
  | _, _ => .bad
def aZip (a b : Ex) : Ax := fun e => (a e).bind fun x => (b e).bind fun y => match x.d, y.d with
  | .lst ds, .lst es => .ok (zipD ds es)
  | .tup ds, .tup es => .ok (zipD ds es)
  | _, _ => .bad
def aEnum (a : Ex) : Ax := fun e => (a e).bind fun x => match x.d with
  | .lst ds => .ok (enumD 0 ds)
  | _ => .bad

/-! changes of an owned list -/
def fAppend (ds : List D) (d : D) : R (List D) := if ds.length ≤ LIM then .ok (ds ++ [d]) else .bad
def fExtend (ds : List D) : D → R (List D)
  | .lst es => if ds.length + es.length ≤ LIM then .ok (ds ++ es) else .bad
  | _ => .bad
end Tg

/-! Tg, part 2: what stands in the abstract heap for pure data; the relation of environments and slots. -/
namespace Tg
open PySem PySem.Spec PyProof.Rows L2

/-- the script's list: it is never written -/
def Scr (K : PySem.W.Frag) (H : Hp) (a : Addr) (xs : List V) : Prop :=
  (∃ o, H a = some (.frz o (.lst xs))) ∨
    ∃ (o : Obj) (its : Array Value) (n : Nat), K.lookup a = some o ∧ o.cls = .type "list" ∧ o.dict = none ∧ o.data = .seq its n ∧ its.size ≤ sizeLine ∧ Vals xs its.toList
theorem Scr.seq {K : PySem.W.Frag} {H : Hp} {a : Addr} {xs : List V} (h : Scr K H a xs) : SqL K H a xs := by
  rcases h with ⟨o, h⟩ | h
  · exact .inl (.inr ⟨o, h⟩)
  · exact .inr h

/-- an exception's object, of the class cls, its dict at d -/
def ExT (cls : Value) (d : Option Addr) (a : Addr) : HO := .ext fun h => ∃ (oe : Obj) (vs : Array Value), h.get? a = some oe ∧ Zc cls d oe ∧ oe.data = .fields vs
/-- the fields of the exceptions that have some -/
def fnames (c : String) : List Str := if c = "Clash" then [Str.ofString "places"] else if c = "TooMany" then [Str.ofString "texts"] else []
/-- at a: an exception of the class at C, its dict, if any, an exception's dict -/
def XO (H : Hp) (a C : Addr) : Prop := H a = some (ExT (.ref C) none a) ∨ ∃ dd gs, H a = some (ExT (.ref C) (some dd) a) ∧ H dd = some (.xd gs)
mutual
def Rep [T : Tkn] (K : PySem.W.Frag) (N : Addr → Prop) (H : Hp) : D → V → Prop
  | .non, x => x = .non
  | .bl b, x => x = .bl b
  | .int i, x => x = .int i
  | .str s, x => x = .str ⟨s.toArray⟩
  | .tup ds, x => ∃ a xs, x = .ref a ∧ H a = some (.tup xs) ∧ RepL K N H ds xs
  | .lst ds, x => ∃ a xs, x = .ref a ∧ (N a ∧ H a = some (.lst xs)) ∧ RepL K N H ds xs
  | .scr ns, x => ∃ a, x = .ref a ∧ Scr K H a (ns.map V.int)
  | .exc c fs, x => ∃ a C, x = .ref a ∧ PySem.W.nsIn K mainGlobals (Str.ofString c) = some (some (.ref C)) ∧ ((fs = [] ∧ XO H a C) ∨ ∃ dd xs, fs ≠ [] ∧ H a = some (ExT (.ref C) (some dd) a) ∧ H dd = some (.xd ((fnames c).zip xs)) ∧ RepL K N H fs xs)
  | .jnk, x => ∃ a xs, x = .ref a ∧ N a ∧ H a = some (.lst xs)
  | .opq k, x => ∃ a, x = .ref a ∧ T.tk k = some a
def RepL [T : Tkn] (K : PySem.W.Frag) (N : Addr → Prop) (H : Hp) : List D → List V → Prop
  | [], xs => xs = []
  | d :: r, xs => ∃ y ys, xs = y :: ys ∧ Rep K N H d y ∧ RepL K N H r ys
end

section
variable {T : Tkn} {K : PySem.W.Frag} {N N' : Addr → Prop} {H H' : Hp}
/-- what no one ever writes: the script, exceptions -/
def Fx (u : HO) : Prop := (∃ o xs, u = .frz o (.lst xs)) ∨ (∃ cls d a, u = ExT cls d a) ∨ ∃ fs, u = .xd fs
theorem Fx.nl {xs : List V} : ¬ Fx (.lst xs) := fun h => by
  rcases h with ⟨_, _, h⟩ | ⟨_, _, _, h⟩ | ⟨_, h⟩ <;> first | cases h | (unfold ExT at h; cases h)
theorem nfx_K {ks : List (Key × V)} : ¬ Fx (.dK ks) := fun h => by
  rcases h with ⟨_, _, h⟩ | ⟨_, _, _, h⟩ | ⟨_, h⟩ <;> first | cases h | (unfold ExT at h; cases h)
theorem nfx_T {ks : List (List Key × V)} : ¬ Fx (.dT ks) := fun h => by
  rcases h with ⟨_, _, h⟩ | ⟨_, _, _, h⟩ | ⟨_, h⟩ <;> first | cases h | (unfold ExT at h; cases h)
/-- tuples, the script and exceptions stand still -/
def Still (H H' : Hp) : Prop := (∀ a xs, H a = some (.tup xs) → H' a = some (.tup xs)) ∧ ∀ a u, Fx u → H a = some u → H' a = some u
theorem Still.rd (h : Still H H') {a : Addr} {xs : List V} (q : H a = some (.tup xs)) : H' a = some (.tup xs) := h.1 _ _ q
theorem sqt {a : Addr} {xs : List V} (q : H a = some (.tup xs)) : SqT K H a xs := .inl (.inl q)
theorem Still.scr (h : Still H H') {a : Addr} {xs : List V} (q : Scr K H a xs) : Scr K H' a xs := by
  rcases q with ⟨o, q⟩ | q
  · exact .inl ⟨o, h.2 _ _ (.inl ⟨_, _, rfl⟩) q⟩
  · exact .inr q
theorem XO.still {a C : Addr} (ht : Still H H') (h : XO H a C) : XO H' a C := h.imp (fun h => ht.2 _ _ (.inr (.inl ⟨_, _, _, rfl⟩)) h) fun ⟨dd, gs, h1, h2⟩ => ⟨dd, gs, ht.2 _ _ (.inr (.inl ⟨_, _, _, rfl⟩)) h1, ht.2 _ _ (.inr (.inr ⟨_, rfl⟩)) h2⟩
theorem Still.refl (H : Hp) : Still H H := ⟨fun _ _ h => h, fun _ _ _ h => h⟩
theorem Still.trans {H1 : Hp} (a : Still H H1) (b : Still H1 H') : Still H H' := ⟨fun _ _ h => b.1 _ _ (a.1 _ _ h), fun _ _ f h => b.2 _ _ f (a.2 _ _ f h)⟩
theorem Same.still (s : Same H H') : Still H H' := ⟨fun a xs h => s _ _ h, fun a u _ h => s _ _ h⟩
/-- one list is written -/
theorem still_lst {a : Addr} {xs ys : List V} (ha : H a = some (.lst xs)) : Still H (upd H a (.lst ys)) := ⟨fun b zs h => by
  rw [upd_ne (fun o => by subst o; rw [ha] at h; cases h)]
  exact h, fun b u f h => by
    rw [upd_ne (fun o => by subst o; rw [ha] at h; cases h; exact Fx.nl f)]
    exact h⟩
mutual
theorem Rep.imp (hl : ∀ a xs, N a → H a = some (.lst xs) → N' a ∧ H' a = some (.lst xs)) (ht : Still H H') : ∀ (d : D) (x : V), Rep K N H d x → Rep K N' H' d x
  | .non, _, h => h
  | .bl _, _, h => h
  | .int _, _, h => h
  | .str _, _, h => h
  | .tup ds, x, ⟨a, xs, e, hs, hr⟩ => ⟨a, xs, e, ht.rd hs, RepL.imp hl ht ds xs hr⟩
  | .lst ds, x, ⟨a, xs, e, hs, hr⟩ => ⟨a, xs, e, hl _ _ hs.1 hs.2, RepL.imp hl ht ds xs hr⟩
  | .scr ns, x, ⟨a, e, h⟩ => ⟨a, e, ht.scr h⟩
  | .exc c fs, x, ⟨a, C, e, hc, h⟩ => ⟨a, C, e, hc, h.elim (fun ⟨h1, h2⟩ => .inl ⟨h1, h2.still ht⟩) fun ⟨dd, xs, h0, h1, h2, h3⟩ => .inr ⟨dd, xs, h0, ht.2 _ _ (.inr (.inl ⟨_, _, _, rfl⟩)) h1, ht.2 _ _ (.inr (.inr ⟨_, rfl⟩)) h2, RepL.imp hl ht fs xs h3⟩⟩
  | .jnk, x, ⟨a, xs, e, n, h⟩ => ⟨a, xs, e, hl _ _ n h⟩
  | .opq k, x, h => h
theorem RepL.imp (hl : ∀ a xs, N a → H a = some (.lst xs) → N' a ∧ H' a = some (.lst xs)) (ht : Still H H') : ∀ (ds : List D) (xs : List V), RepL K N H ds xs → RepL K N' H' ds xs
  | [], _, h => h
  | d :: r, xs, ⟨y, ys, e, h1, h2⟩ => ⟨y, ys, e, Rep.imp hl ht d y h1, RepL.imp hl ht r ys h2⟩
end
mutual
/-- data without a list hangs on tuples alone -/
theorem Rep.flat (ht : Still H H') : ∀ (d : D) (x : V), d.flat = true → Rep K N H d x → Rep K N' H' d x
  | .non, _, _, h => h
  | .bl _, _, _, h => h
  | .int _, _, _, h => h
  | .str _, _, _, h => h
  | .tup ds, x, f, ⟨a, xs, e, hs, hr⟩ => ⟨a, xs, e, ht.rd hs, RepL.flat ht ds xs (by simpa [D.flat] using f) hr⟩
  | .lst ds, x, f, _ => by simp [D.flat] at f
  | .scr ns, x, _, ⟨a, e, h⟩ => ⟨a, e, ht.scr h⟩
  | .exc c fs, x, f, ⟨a, C, e, hc, h⟩ => ⟨a, C, e, hc, h.elim (fun ⟨h1, h2⟩ => .inl ⟨h1, h2.still ht⟩) fun ⟨dd, xs, h0, h1, h2, h3⟩ => .inr ⟨dd, xs, h0, ht.2 _ _ (.inr (.inl ⟨_, _, _, rfl⟩)) h1, ht.2 _ _ (.inr (.inr ⟨_, rfl⟩)) h2, RepL.flat ht fs xs (by simpa [D.flat] using f) h3⟩⟩
  | .jnk, x, f, _ => by simp [D.flat] at f
  | .opq k, x, _, h => h
theorem RepL.flat (ht : Still H H') : ∀ (ds : List D) (xs : List V), D.flatL ds = true → RepL K N H ds xs → RepL K N' H' ds xs
  | [], _, _, h => h
  | d :: r, xs, f, ⟨y, ys, e, h1, h2⟩ => by
    have f' : D.flat d = true ∧ D.flatL r = true := by simpa [D.flatL] using f
    exact ⟨y, ys, e, Rep.flat ht d y f'.1 h1, RepL.flat ht r ys f'.2 h2⟩
end
mutual
/-- lists of N may have been written -/
theorem Rep.kill (hl : ∀ a xs, N a → H a = some (.lst xs) → N' a ∧ ∃ ys, H' a = some (.lst ys)) (ht : Still H H') : ∀ (d : D) (x : V), Rep K N H d x → Rep K N' H' d.kill x
  | .non, _, h => h
  | .bl _, _, h => h
  | .int _, _, h => h
  | .str _, _, h => h
  | .tup ds, x, ⟨a, xs, e, hs, hr⟩ => ⟨a, xs, e, ht.rd hs, RepL.kill hl ht ds xs hr⟩
  | .lst ds, x, ⟨a, xs, e, hs, hr⟩ => let ⟨n, ys, h⟩ := hl _ _ hs.1 hs.2; ⟨a, ys, e, n, h⟩
  | .scr ns, x, ⟨a, e, h⟩ => ⟨a, e, ht.scr h⟩
  | .exc c fs, x, ⟨a, C, e, hc, h⟩ => ⟨a, C, e, hc, h.elim (fun ⟨h1, h2⟩ => .inl ⟨by rw [h1]; rfl, h2.still ht⟩) fun ⟨dd, xs, h0, h1, h2, h3⟩ => .inr ⟨dd, xs, (by cases fs with | nil => exact absurd rfl h0 | cons d r => exact List.cons_ne_nil _ _), ht.2 _ _ (.inr (.inl ⟨_, _, _, rfl⟩)) h1, ht.2 _ _ (.inr (.inr ⟨_, rfl⟩)) h2, RepL.kill hl ht fs xs h3⟩⟩
  | .jnk, x, ⟨a, xs, e, n, h⟩ => let ⟨n', ys, h'⟩ := hl _ _ n h; ⟨a, ys, e, n', h'⟩
  | .opq k, x, h => h
theorem RepL.kill (hl : ∀ a xs, N a → H a = some (.lst xs) → N' a ∧ ∃ ys, H' a = some (.lst ys)) (ht : Still H H') : ∀ (ds : List D) (xs : List V), RepL K N H ds xs → RepL K N' H' (D.killL ds) xs
  | [], _, h => h
  | d :: r, xs, ⟨y, ys, e, h1, h2⟩ => ⟨y, ys, e, Rep.kill hl ht d y h1, RepL.kill hl ht r ys h2⟩
end
theorem Rep.same (s : Same H H') {d : D} {x : V} (h : Rep K N H d x) : Rep K N H' d x :=
  Rep.imp (fun _ _ n r => ⟨n, s _ _ r⟩) (Same.still s) d x h
theorem RepL.same (s : Same H H') {ds : List D} {xs : List V} (h : RepL K N H ds xs) : RepL K N H' ds xs :=
  RepL.imp (fun _ _ n r => ⟨n, s _ _ r⟩) (Same.still s) ds xs h
theorem Rep.mono (f : ∀ a, N a → N' a) {d : D} {x : V} (h : Rep K N H d x) : Rep K N' H d x := Rep.imp (fun _ _ n r => ⟨f _ n, r⟩) (Still.refl H) d x h
theorem RepL.mono (f : ∀ a, N a → N' a) {ds : List D} {xs : List V} (h : RepL K N H ds xs) : RepL K N' H ds xs := RepL.imp (fun _ _ n r => ⟨f _ n, r⟩) (Still.refl H) ds xs h
theorem RepL.length : ∀ {ds : List D} {xs : List V}, RepL K N H ds xs → xs.length = ds.length
  | [], _, h => by
    have h' : _ = [] := h
    rw [h']
    rfl
  | d :: r, _, ⟨y, ys, e, _, h2⟩ => by
    rw [e, List.length_cons, List.length_cons, RepL.length h2]
theorem RepL.get : ∀ {ds : List D} {xs : List V} {i : Nat} {d : D}, RepL K N H ds xs → ds[i]? = some d → ∃ x, xs[i]? = some x ∧ Rep K N H d x
  | [], _, _, _, _, e => by simp at e
  | d :: r, _, 0, c, ⟨y, ys, e, h1, _⟩, q => by
    have q' : d = c := by simpa using q
    subst q'
    exact ⟨y, by rw [e]; rfl, h1⟩
  | d :: r, _, i + 1, _, ⟨y, ys, e, _, h2⟩, q => by
    obtain ⟨x, e1, h⟩ := RepL.get (i := i) h2 (by simpa using q)
    exact ⟨x, by rw [e]; simpa using e1, h⟩
theorem RepL.getV : ∀ {ds : List D} {xs : List V} {i : Nat} {x : V}, RepL K N H ds xs → xs[i]? = some x → ∃ d, ds[i]? = some d ∧ Rep K N H d x
  | [], xs, _, _, h, e => by
    have h' : xs = [] := h
    rw [h'] at e
    simp at e
  | d :: r, _, 0, c, ⟨y, ys, e, h1, _⟩, q => by
    rw [e] at q
    have q' : y = c := by simpa using q
    subst q'
    exact ⟨d, rfl, h1⟩
  | d :: r, _, i + 1, _, ⟨y, ys, e, _, h2⟩, q => by
    rw [e] at q
    obtain ⟨x, e1, h⟩ := RepL.getV (i := i) h2 (by simpa using q)
    exact ⟨x, by simpa using e1, h⟩
theorem RepL.append : ∀ {ds es : List D} {xs ys : List V}, RepL K N H ds xs → RepL K N H es ys → RepL K N H (ds ++ es) (xs ++ ys)
  | [], _, xs, _, h, g => by
    have h' : xs = [] := h
    rw [h']
    exact g
  | d :: r, es, _, zs, ⟨y, ys, e, h1, h2⟩, g => ⟨y, ys ++ zs, by rw [e]; rfl, h1, RepL.append h2 g⟩
theorem RepL.one {d : D} {x : V} (h : Rep K N H d x) : RepL K N H [d] [x] := ⟨x, [], rfl, h, rfl⟩
theorem RepL.nil : RepL K N H [] [] := rfl
theorem RepL.set : ∀ {ds : List D} {xs : List V} {d : D} {x : V} (i : Nat), RepL K N H ds xs → Rep K N H d x → RepL K N H (ds.set i d) (xs.set i x)
  | [], xs, _, _, _, h, _ => by
    have h' : xs = [] := h
    rw [h']
    rfl
  | c :: r, _, d, x, 0, ⟨y, ys, e, _, h2⟩, g => by
    rw [e]
    exact ⟨x, ys, rfl, g, h2⟩
  | c :: r, _, d, x, i + 1, ⟨y, ys, e, h1, h2⟩, g => by
    rw [e]
    exact ⟨y, ys.set i x, rfl, h1, RepL.set i h2 g⟩
theorem RepL.take : ∀ {ds : List D} {xs : List V} (n : Nat), RepL K N H ds xs → RepL K N H (ds.take n) (xs.take n)
  | _, xs, 0, h => rfl
  | [], xs, n + 1, h => by
    have h' : xs = [] := h
    rw [h']
    rfl
  | d :: r, _, n + 1, ⟨y, ys, e, h1, h2⟩ => by
    rw [e]
    exact ⟨y, ys.take n, rfl, h1, RepL.take n h2⟩
theorem RepL.drop : ∀ {ds : List D} {xs : List V} (n : Nat), RepL K N H ds xs → RepL K N H (ds.drop n) (xs.drop n)
  | _, xs, 0, h => h
  | [], xs, n + 1, h => by
    have h' : xs = [] := h
    rw [h']
    rfl
  | d :: r, _, n + 1, ⟨y, ys, e, h1, h2⟩ => by
    rw [e]
    exact RepL.drop n h2
theorem RepL.eraseIdx : ∀ {ds : List D} {xs : List V} (i : Nat), RepL K N H ds xs → RepL K N H (ds.eraseIdx i) (xs.eraseIdx i)
  | [], xs, _, h => by
    have h' : xs = [] := h
    rw [h']
    rfl
  | c :: r, _, 0, ⟨y, ys, e, _, h2⟩ => by
    rw [e]
    exact h2
  | c :: r, _, i + 1, ⟨y, ys, e, h1, h2⟩ => by
    rw [e]
    exact ⟨y, ys.eraseIdx i, rfl, h1, RepL.eraseIdx i h2⟩
theorem RepL.reverse : ∀ {ds : List D} {xs : List V}, RepL K N H ds xs → RepL K N H ds.reverse xs.reverse
  | [], xs, h => by
    have h' : xs = [] := h
    rw [h']
    rfl
  | d :: r, _, ⟨y, ys, e, h1, h2⟩ => by
    rw [e, List.reverse_cons, List.reverse_cons]
    exact RepL.append (RepL.reverse h2) (RepL.one h1)
/-- ints, texts, truths -/
theorem RepL.ints : ∀ {ns : List Int} {xs : List V}, RepL K N H (ns.map D.int) xs → xs = ns.map V.int
  | [], xs, h => h
  | n :: r, _, ⟨y, ys, e, h1, h2⟩ => by
    have h1' : y = V.int n := h1
    rw [e, h1', RepL.ints h2]
    rfl
theorem RepL.strs : ∀ {ns : List (List Nat)} {xs : List V}, RepL K N H (ns.map D.str) xs → xs = ns.map fun s => V.str ⟨s.toArray⟩
  | [], xs, h => h
  | n :: r, _, ⟨y, ys, e, h1, h2⟩ => by
    have h1' : y = V.str ⟨n.toArray⟩ := h1
    rw [e, h1', RepL.strs h2]
    rfl
theorem RepL.bls : ∀ {ns : List Bool} {xs : List V}, RepL K N H (ns.map D.bl) xs → xs = ns.map V.bl
  | [], xs, h => h
  | n :: r, _, ⟨y, ys, e, h1, h2⟩ => by
    have h1' : y = V.bl n := h1
    rw [e, h1', RepL.bls h2]
    rfl
theorem RepL.of_ints : ∀ (ns : List Int), RepL K N H (ns.map D.int) (ns.map V.int)
  | [] => rfl
  | n :: r => ⟨_, _, rfl, rfl, RepL.of_ints r⟩
mutual
theorem Rep.dp : ∀ (n : Nat) (d : D) (x : V), d.shp n = true → Rep K N H d x → Dp K H x d.py
  | _, .non, _, _, h => by
    have h' : _ = V.non := h
    rw [h']
    exact .non
  | _, .bl b, _, _, h => by
    have h' : _ = V.bl b := h
    rw [h']
    exact .bl b
  | _, .int b, _, _, h => by
    have h' : _ = V.int b := h
    rw [h']
    exact .int b
  | _, .str b, _, _, h => by
    have h' : _ = V.str ⟨b.toArray⟩ := h
    rw [h']
    exact .str _
  | n + 1, .tup ds, _, f, ⟨a, xs, e, hs, hr⟩ => by
    rw [e]
    exact .tup (sqt hs) (RepL.dp n ds xs (by simpa [D.shp] using f) hr)
  | n + 1, .lst ds, _, f, ⟨a, xs, e, hs, hr⟩ => by
    rw [e]
    exact .lst (.inl (.inl hs.2)) (RepL.dp n ds xs (by simpa [D.shp] using f) hr)
  | 0, .tup ds, _, f, _ => by simp [D.shp] at f
  | 0, .lst ds, _, f, _ => by simp [D.shp] at f
  | _, .scr _, _, f, _ => by simp [D.shp] at f
  | _, .exc _ _, _, f, _ => by simp [D.shp] at f
  | _, .jnk, _, f, _ => by simp [D.shp] at f
  | _, .opq _, _, f, _ => by simp [D.shp] at f
theorem RepL.dp : ∀ (n : Nat) (ds : List D) (xs : List V), D.shpL n ds = true → RepL K N H ds xs → DpAll K H xs (D.pyL ds)
  | _, [], xs, _, h => by
    have h' : xs = [] := h
    rw [h']
    exact .nil
  | n, d :: r, _, f, ⟨y, ys, e, h1, h2⟩ => by
    have f' : D.shp n d = true ∧ D.shpL n r = true := by simpa [D.shpL] using f
    rw [e]
    exact .cons (Rep.dp n d y f'.1 h1) (RepL.dp n r ys f'.2 h2)
end
end
mutual
theorem shp_can : ∀ (n : Nat) (d : D), d.shp n = true → d.py.canLay0 = true ∧ d.py.depth ≤ n
  | _, .non, _ => ⟨by simp [D.py, PyData.canLay0], by simp [D.py, PyData.depth]⟩
  | _, .bl _, _ => ⟨by simp [D.py, PyData.canLay0], by simp [D.py, PyData.depth]⟩
  | _, .int _, _ => ⟨by simp [D.py, PyData.canLay0], by simp [D.py, PyData.depth]⟩
  | _, .str s, f => ⟨by simpa [D.py, PyData.canLay0, D.shp, PyData.strOk] using f, by simp [D.py, PyData.depth]⟩
  | n + 1, .tup ds, f => by
    obtain ⟨h1, h2⟩ := shpL_can n ds (by simpa [D.shp] using f)
    exact ⟨by simpa [D.py, PyData.canLay0] using h1, by simp [D.py, PyData.depth]; omega⟩
  | n + 1, .lst ds, f => by
    obtain ⟨h1, h2⟩ := shpL_can n ds (by simpa [D.shp] using f)
    exact ⟨by simpa [D.py, PyData.canLay0] using h1, by simp [D.py, PyData.depth]; omega⟩
  | 0, .tup ds, f => by simp [D.shp] at f
  | 0, .lst ds, f => by simp [D.shp] at f
  | _, .scr _, f => by simp [D.shp] at f
  | _, .exc _ _, f => by simp [D.shp] at f
  | _, .jnk, f => by simp [D.shp] at f
  | _, .opq _, f => by simp [D.shp] at f
theorem shpL_can : ∀ (n : Nat) (ds : List D), D.shpL n ds = true → PyData.canLayAll0 (D.pyL ds) = true ∧ PyData.depthAll (D.pyL ds) ≤ n
  | _, [], _ => ⟨by simp [D.pyL, PyData.canLayAll0], by simp [D.pyL, PyData.depthAll]⟩
  | n, d :: r, f => by
    have f' : D.shp n d = true ∧ D.shpL n r = true := by simpa [D.shpL] using f
    obtain ⟨h1, h2⟩ := shp_can n d f'.1
    obtain ⟨h3, h4⟩ := shpL_can n r f'.2
    refine ⟨by simp [D.pyL, PyData.canLayAll0, h1, h3], ?_⟩
    simp [D.pyL, PyData.depthAll]
    omega
end
theorem shp_shaped {n : Nat} {d : D} (hn : n ≤ 64) (f : d.shp n = true) : SeqAt.shaped d.py = true := by
  obtain ⟨h1, h2⟩ := shp_can n d f
  unfold SeqAt.shaped
  rw [h1, Bool.true_and]
  exact decide_eq_true (Nat.le_trans h2 hn)
/-- T2 knows T's tokens -/
def TLe (T T2 : Tkn) : Prop := ∀ k a, T.tk k = some a → T2.tk k = some a
theorem TLe.refl (T : Tkn) : TLe T T := fun _ _ h => h
theorem TLe.trans {A B C : Tkn} (h : TLe A B) (g : TLe B C) : TLe A C := fun k a z => g k a (h k a z)
section
variable {T T2 : Tkn} {K : PySem.W.Frag} {N : Addr → Prop} {H : Hp}
mutual
theorem Rep.tok (h : TLe T T2) : ∀ (d : D) (x : V), @Rep T K N H d x → @Rep T2 K N H d x
  | .non, _, h => h
  | .bl _, _, h => h
  | .int _, _, h => h
  | .str _, _, h => h
  | .tup ds, x, ⟨a, xs, e, hs, hr⟩ => ⟨a, xs, e, hs, RepL.tok h ds xs hr⟩
  | .lst ds, x, ⟨a, xs, e, hs, hr⟩ => ⟨a, xs, e, hs, RepL.tok h ds xs hr⟩
  | .scr ns, x, h => h
  | .exc c fs, x, ⟨a, C, e, hc, q⟩ => ⟨a, C, e, hc, q.elim (fun z => .inl z) fun ⟨dd, xs, h0, h1, h2, h3⟩ => .inr ⟨dd, xs, h0, h1, h2, RepL.tok h fs xs h3⟩⟩
  | .jnk, x, h => h
  | .opq k, x, ⟨a, e, q⟩ => ⟨a, e, h k a q⟩
theorem RepL.tok (h : TLe T T2) : ∀ (ds : List D) (xs : List V), @RepL T K N H ds xs → @RepL T2 K N H ds xs
  | [], _, h => h
  | d :: r, xs, ⟨y, ys, e, h1, h2⟩ => ⟨y, ys, e, Rep.tok h d y h1, RepL.tok h r ys h2⟩
end
end
section
variable {T T2 : Tkn} {K : PySem.W.Frag} {N : Addr → Prop} {H : Hp}
mutual
theorem Rep.tf : ∀ (d : D) (x : V), d.tf = true → @Rep T K N H d x → @Rep T2 K N H d x
  | .non, _, _, h => h
  | .bl _, _, _, h => h
  | .int _, _, _, h => h
  | .str _, _, _, h => h
  | .tup ds, x, f, ⟨a, xs, e, hs, hr⟩ => ⟨a, xs, e, hs, RepL.tf ds xs (by simpa [D.tf] using f) hr⟩
  | .lst ds, x, f, ⟨a, xs, e, hs, hr⟩ => ⟨a, xs, e, hs, RepL.tf ds xs (by simpa [D.tf] using f) hr⟩
  | .scr ns, x, _, h => h
  | .exc c fs, x, f, ⟨a, C, e, hc, q⟩ => ⟨a, C, e, hc, q.elim (fun z => .inl z) fun ⟨dd, xs, h0, h1, h2, h3⟩ => .inr ⟨dd, xs, h0, h1, h2, RepL.tf fs xs (by simpa [D.tf] using f) h3⟩⟩
  | .jnk, x, _, h => h
  | .opq k, x, f, _ => by simp [D.tf] at f
theorem RepL.tf : ∀ (ds : List D) (xs : List V), D.tfL ds = true → @RepL T K N H ds xs → @RepL T2 K N H ds xs
  | [], _, _, h => h
  | d :: r, xs, f, ⟨y, ys, e, h1, h2⟩ => by
    have f' : D.tf d = true ∧ D.tfL r = true := by simpa [D.tfL] using f
    exact ⟨y, ys, e, Rep.tf d y f'.1 h1, RepL.tf r ys f'.2 h2⟩
end
end
/-! what stands in the heap for a store -/
/-- the names of a class's fields, in the order in which they are set -/
def fldN (c : String) : List Str := if c = "Book" then ["names", "entries", "heard"] else if c = "Entry" then ["texts", "marks"] else []
section
variable [T : Tkn]
/-- a dict's pairs -/
def DicR (K : PySem.W.Frag) (N : Addr → Prop) (H : Hp) : List (List Nat × D) → List (Key × V) → Prop
  | [], ks => ks = []
  | (k, d) :: r, ks => ∃ y s, ks = (.inr ⟨k.toArray⟩, y) :: s ∧ Rep K N H d y ∧ DicR K N H r s
def ORep (K : PySem.W.Frag) (N : Addr → Prop) (H : Hp) : O → Addr → Prop
  | .lst ds, a => ∃ xs, H a = some (.lst xs) ∧ RepL K N H ds xs
  | .dic kvs, a => ∃ ks, H a = some (.dK ks) ∧ DicR K N H kvs ks
  | .ins c fs, a => ∃ C dx xs, PySem.W.nsIn K mainGlobals (Str.ofString c) = some (some (.ref C)) ∧ H a = some (.ins C dx ((fldN c).zip xs)) ∧ RepL K N H fs xs
/-- all objects of a store stand at their tokens' addresses -/
def SRep (K : PySem.W.Frag) (N : Addr → Prop) (H : Hp) (os : List O) : Prop := (∀ k o, os[k]? = some o → ∃ a, T.tk k = some a ∧ ORep K N H o a) ∧ ∀ k, os.length ≤ k → T.tk k = none
end
section
variable {T : Tkn} {K : PySem.W.Frag} {N N' : Addr → Prop} {H H' : Hp}
theorem DicR.imp (f : ∀ d x, Rep K N H d x → Rep K N' H' d x) : ∀ {r : List (List Nat × D)} {ks : List (Key × V)}, DicR K N H r ks → DicR K N' H' r ks
  | [], _, h => h
  | (k, d) :: r, _, ⟨y, s, e, h1, h2⟩ => ⟨y, s, e, f _ _ h1, DicR.imp f h2⟩
theorem ORep.imp (f : ∀ d x, Rep K N H d x → Rep K N' H' d x) (g : ∀ ds xs, RepL K N H ds xs → RepL K N' H' ds xs) {o : O} {a : Addr} (hs : ∀ u, H a = some u → H' a = some u) (h : ORep K N H o a) : ORep K N' H' o a := by
  cases o with
  | lst ds => obtain ⟨xs, h1, h2⟩ := h; exact ⟨xs, hs _ h1, g _ _ h2⟩
  | dic kvs => obtain ⟨ks, h1, h2⟩ := h; exact ⟨ks, hs _ h1, h2.imp f⟩
  | ins c fs => obtain ⟨C, dx, vs, h0, h1, h2⟩ := h; exact ⟨C, dx, vs, h0, hs _ h1, g _ _ h2⟩
theorem SRep.imp (f : ∀ d x, Rep K N H d x → Rep K N' H' d x) (g : ∀ ds xs, RepL K N H ds xs → RepL K N' H' ds xs) {os : List O} (hs : ∀ k a u, T.tk k = some a → H a = some u → H' a = some u) (h : SRep K N H os) : SRep K N' H' os :=
  ⟨fun k o q => let ⟨a, h1, h2⟩ := h.1 k o q; ⟨a, h1, h2.imp f g fun u => hs k a u h1⟩, h.2⟩
theorem SRep.same (s : Same H H') {os : List O} (h : SRep K N H os) : SRep K N H' os := h.imp (fun _ _ q => q.same s) (fun _ _ q => q.same s) fun _ a u _ q => s _ _ q
theorem SRep.mono (f : ∀ a, N a → N' a) {os : List O} (h : SRep K N H os) : SRep K N' H os := h.imp (fun _ _ q => q.mono f) (fun _ _ q => q.mono f) fun _ _ _ _ q => q
end
end Tg

/-! Tg, part 3: environments over slots; the readings of expressions, tests, argument lists. -/
namespace Tg
open PySem PySem.Spec PyProof.Rows L2
/-- the tokens' objects are there, at addresses of their own -/
def TokOk (T : Tkn) (H : Hp) : Prop := (∀ k a, T.tk k = some a → H a ≠ none) ∧ ∀ j k a, T.tk j = some a → T.tk k = some a → j = k
/-- nodes that no token is of -/
def NT (T : Tkn) (N : Addr → Prop) : Addr → Prop := fun a => N a ∧ ∀ k, T.tk k ≠ some a

section
variable [T : Tkn]
/-- the pairs of a dict: ints, or tuples of ints, and flat data -/
inductive DR {κ : Type} (f : List Int → κ) (K : PySem.W.Frag) (H : Hp) : List (List Int × D) → List (κ × V) → Prop
  | nil : DR f K H [] []
  | cons {k : List Int} {d : D} {y : V} {r : List (List Int × D)} {s : List (κ × V)} : Rep K (fun _ => False) H d y → d.flat = true → DR f K H r s → DR f K H ((k, d) :: r) ((f k, y) :: s)
def fK (k : List Int) : Key := .inl (k.headD 0)
def fT (k : List Int) : List Key := k.map .inl
def fS (k : List Int) : Key := .inr ⟨(k.map Int.toNat).toArray⟩
/-- the kinds of keys: 0 ints, 1 tuples of ints, else texts -/
def okK : Nat → List Int → Bool
  | 0, k => k.length == 1
  | 1, _ => true
  | _ + 2, k => k.all fun i => decide (0 ≤ i)
def DOb0 (K : PySem.W.Frag) (H : Hp) (t : Nat) (kvs : List (List Int × D)) (o : HO) : Prop := (∀ p ∈ kvs, okK t p.1 = true) ∧ match t with
  | 0 => ∃ ks, o = .dK ks ∧ DR fK K H kvs ks
  | 1 => ∃ ks, o = .dT ks ∧ DR fT K H kvs ks
  | _ + 2 => ∃ ks, o = .dK ks ∧ DR fS K H kvs ks
theorem DR.still {κ : Type} {f : List Int → κ} {K : PySem.W.Frag} {H H' : Hp} (s : Still H H') {kvs : List (List Int × D)} {ks : List (κ × V)} (h : DR f K H kvs ks) : DR f K H' kvs ks := by
  induction h with
  | nil => exact .nil
  | cons h1 h2 _ ih => exact .cons (Rep.flat s _ _ h2 h1) h2 ih
theorem DOb0.still {K : PySem.W.Frag} {H H' : Hp} (s : Still H H') {t : Nat} {kvs : List (List Int × D)} {o : HO} (h : DOb0 K H t kvs o) : DOb0 K H' t kvs o := by
  refine ⟨h.1, ?_⟩
  match t, h.2 with
  | 0, ⟨ks, e, q⟩ => exact ⟨ks, e, q.still s⟩
  | 1, ⟨ks, e, q⟩ => exact ⟨ks, e, q.still s⟩
  | _ + 2, ⟨ks, e, q⟩ => exact ⟨ks, e, q.still s⟩
/-- a dict whose keys are nested tuples of ints: at a, each key with its address -/
def NPair : List (NestedKey × Addr × V) → List (NestedKey × Addr × Value) → Prop := Paired fun p q => p.1 = q.1 ∧ p.2.1 = q.2.1 ∧ RelV p.2.2 q.2.2
def NDic (a : Addr) (o : Obj) (ks : List (NestedKey × Addr × V)) : HO := .ext fun h => (a == sysModules) = false ∧ ∃ (w : World) (xs : List (NestedKey × Addr × Value)), NPair ks xs ∧ ∃ es ep, h.get? a = some o ∧ o.ExactDict ∧ o.data = .dict es ep ∧ es.toList = xs.map (fun x => (⟨x.1.hash w, .ref x.2.1, x.2.2⟩ : DictEntry)) ∧ (xs.map (·.1)).Nodup
mutual
def nkOf : D → Option NestedKey
  | .int i => some (.num i)
  | .tup ds => match nkAll ds with
    | some ks => some (.tup ks)
    | none => none
  | _ => none
def nkAll : List D → Option (List NestedKey)
  | [] => some []
  | d :: r => match nkOf d, nkAll r with
    | some k, some ks => some (k :: ks)
    | _, _ => none
end
inductive NR (K : PySem.W.Frag) (H : Hp) : List (List Int × D) → List (NestedKey × Addr × V) → Prop
  | nil : NR K H [] []
  | cons {kd v : D} {k : NestedKey} {b : Addr} {y : V} {r : List (List Int × D)} {s : List (NestedKey × Addr × V)} : nkOf kd = some k → k.depth ≤ 8 → kd.flat = true → Rep K (fun _ => False) H kd (.ref b) → Rep K (fun _ => False) H v y → v.flat = true → NR K H r s → NR K H (([], .tup [kd, v]) :: r) ((k, b, y) :: s)
theorem NR.still {K : PySem.W.Frag} {H H' : Hp} (s : Still H H') {kvs : List (List Int × D)} {ks : List (NestedKey × Addr × V)} (h : NR K H kvs ks) : NR K H' kvs ks := by
  induction h with
  | nil => exact .nil
  | cons h1 h2 h3 h4 h5 h6 _ ih => exact .cons h1 h2 h3 (Rep.flat s _ _ h3 h4) (Rep.flat s _ _ h6 h5) h6 ih
def NOb (K : PySem.W.Frag) (H : Hp) (kvs : List (List Int × D)) (a : Addr) (o : HO) : Prop := ∃ ob ks, o = NDic a ob ks ∧ NR K H kvs ks
/-- what stands at a for the pairs kvs of the kind t -/
def DOb (K : PySem.W.Frag) (H : Hp) (t : Nat) (kvs : List (List Int × D)) (a : Addr) (o : HO) : Prop := if t = 3 then NOb K H kvs a o else DOb0 K H t kvs o
theorem DOb.old {K : PySem.W.Frag} {H : Hp} {t : Nat} {kvs : List (List Int × D)} {a : Addr} {o : HO} (h : DOb K H t kvs a o) (ht : t ≠ 3) : DOb0 K H t kvs o := by
  unfold DOb at h
  rwa [if_neg ht] at h
theorem DOb.of {K : PySem.W.Frag} {H : Hp} {t : Nat} {kvs : List (List Int × D)} {a : Addr} {o : HO} (ht : t ≠ 3) (h : DOb0 K H t kvs o) : DOb K H t kvs a o := by
  unfold DOb
  rwa [if_neg ht]
theorem DOb.nst {K : PySem.W.Frag} {H : Hp} {kvs : List (List Int × D)} {a : Addr} {o : HO} (h : DOb K H 3 kvs a o) : NOb K H kvs a o := h
theorem DOb.still {K : PySem.W.Frag} {H H' : Hp} (s : Still H H') {t : Nat} {kvs : List (List Int × D)} {a : Addr} {o : HO} (h : DOb K H t kvs a o) : DOb K H' t kvs a o := by
  unfold DOb at h ⊢
  split
  · rename_i e
    rw [if_pos e] at h
    obtain ⟨ob, ks, e, q⟩ := h
    exact ⟨ob, ks, e, q.still s⟩
  · rename_i e
    rw [if_neg e] at h
    exact h.still s
end
/-- a slot that bears a root of its own -/
def S.rooted : S → Prop
  | .val _ => False
  | .sto _ _ => False
  | .both _ _ => False
  | _ => True
/-- a slot with the store -/
def isSto : S → Bool
  | .sto _ _ => true
  | _ => false
section
variable [T : Tkn]
/-- Z: the lists' nodes that no one changes, by groups of slots; rt: the slots' own roots; B: what is younger than the entry -/
structure Rel (K : PySem.W.Frag) (B : Addr → Prop) (G : Nat → Nat) (Z : Nat → Addr → Prop) (rt : Nat → Addr) (e : En) (σ : L2.St) (H : Hp) : Prop where
  len : e.length = σ.length
  val : ∀ (i : Nat) (d : D), e[i]? = some (some (.val d)) → ∃ x, σ[i]? = some (some x) ∧ Rep K (Z (G i)) H d x
  own : ∀ (i : Nat) (ds : List D), e[i]? = some (some (.own ds)) → σ[i]? = some (some (V.ref (rt i))) ∧ B (rt i) ∧ (∀ p, ¬ Z p (rt i)) ∧ ∃ xs, H (rt i) = some (.lst xs) ∧ RepL K (Z (G i)) H ds xs
  dct : ∀ (i : Nat) (t : Nat) (kvs : List (List Int × D)), e[i]? = some (some (.dct t kvs)) → σ[i]? = some (some (V.ref (rt i))) ∧ B (rt i) ∧ (∀ p, ¬ Z p (rt i)) ∧ ∃ o, H (rt i) = some o ∧ DOb K H t kvs (rt i) o
  injs : ∀ (i j : Nat) (s u : S), e[i]? = some (some s) → e[j]? = some (some u) → s.rooted → u.rooted → rt i = rt j → i = j
  al : ∀ p a, Z p a → H a ≠ none
  dj : ∀ p q a, Z p a → Z q a → p = q
  nw : ∀ p a, p ≠ 0 → p ≠ 99 → Z p a → B a
  yg : ∀ a, H a = none → B a
  sto : ∀ (i m : Nat) (os : List O), e[i]? = some (some (.sto m os)) → SRep K (Z (G i)) H os ∧ (m = 0 → ∀ k a, T.tk k = some a → Z (G i) a) ∧ (m ≠ 0 → ∀ k a, T.tk k = some a → ∀ p, ¬ Z p a) ∧ (m = 2 → ∀ k a, T.tk k = some a → B a)
  tks : ∀ k a, T.tk k = some a → H a ≠ none ∧ ∀ (i : Nat) (s : S), e[i]? = some (some s) → s.rooted → rt i ≠ a
  tki : ∀ j k a, T.tk j = some a → T.tk k = some a → j = k
  stu : ∀ (i j : Nat) (s u : S), e[i]? = some (some s) → e[j]? = some (some u) → isSto s = true → isSto u = true → i = j
theorem Rel.inj {K : PySem.W.Frag} {B : Addr → Prop} {G : Nat → Nat} {Z : Nat → Addr → Prop} {rt : Nat → Addr} {e : En} {σ : L2.St} {H : Hp} (r : Rel K B G Z rt e σ H) (i j : Nat) (ds es : List D) (h1 : e[i]? = some (some (.own ds))) (h2 : e[j]? = some (some (.own es))) (h : rt i = rt j) : i = j := r.injs i j _ _ h1 h2 trivial trivial h

/-- the roots of the slots in l -/
def Root (e : En) (rt : Nat → Addr) (l : List Nat) (a : Addr) : Prop := ∃ i ∈ l, ((∃ ds, e[i]? = some (some (S.own ds))) ∧ a = rt i) ∨ ((∃ os, e[i]? = some (some (S.sto 2 os))) ∧ ∃ k, T.tk k = some a)
/-- the nodes of a value that has just been reckoned from H on -/
def NZ (G : Nat → Nat) (Z : Nat → Addr → Prop) (e : En) (rt : Nat → Addr) (l : List Nat) (H : Hp) : Addr → Prop := fun a => (∃ i ∈ l, Z (G i) a) ∨ H a = none ∨ Root e rt l a
/-- all slots of l are of the group p -/
def allg (G : Nat → Nat) (p : Nat) (l : List Nat) : Bool := l.all fun j => G j == p
omit T in
theorem allg_of {G : Nat → Nat} {p : Nat} {l : List Nat} (h : allg G p l = true) : ∀ j ∈ l, G j = p := fun j hj => by
  have := List.all_eq_true.mp h j hj
  simpa using this

def RepS (K : PySem.W.Frag) (N : Addr → Prop) (H H' : Hp) : S → V → Prop
  | .val d, x => Rep K N H' d x
  | .own ds, x => ∃ r xs, x = .ref r ∧ H r = none ∧ H' r = some (.lst xs) ∧ RepL K (fun a => N a ∧ a ≠ r) H' ds xs
  | .dct _ _, _ => False
  | .sto _ _, _ => False
  | .both d os, x => Rep K (NT T N) H' d x ∧ SRep K (NT T N) H' os ∧ TokOk T H' ∧ ∀ k a, T.tk k = some a → H a = none
abbrev RepO [T : Tkn] (K : PySem.W.Frag) (N : Addr → Prop) (H H' : Hp) (s : S) (x : V) : Prop := RepS K N H H' s x

end
section
variable {T : Tkn} {K : PySem.W.Frag} {B : Addr → Prop} {G : Nat → Nat} {Z : Nat → Addr → Prop} {rt : Nat → Addr} {e : En} {σ : L2.St} {H H1 H2 : Hp}
theorem Rel.ext (r : Rel K B G Z rt e σ H) (s : Same H H1) : Rel K B G Z rt e σ H1 :=
  ⟨r.len, fun i d q => let ⟨x, h1, h2⟩ := r.val i d q; ⟨x, h1, h2.same s⟩, fun i ds q => let ⟨h1, h2, h3, xs, h4, h5⟩ := r.own i ds q; ⟨h1, h2, h3, xs, s _ _ h4, h5.same s⟩,
    fun i t kvs q => let ⟨h1, h2, h3, o, h4, h5⟩ := r.dct i t kvs q; ⟨h1, h2, h3, o, s _ _ h4, h5.still (Same.still s)⟩, r.injs,
    fun p a z q => r.al p a z (s.free q), r.dj, r.nw, fun a h => r.yg a (s.free h), fun i m os q => let ⟨h1, h2⟩ := r.sto i m os q; ⟨h1.same s, h2⟩, fun k a q => let ⟨h1, h2⟩ := r.tks k a q; ⟨fun z => h1 (s.free z), h2⟩, r.tki, r.stu⟩
theorem NZ.mono {l l' : List Nat} (h : ∀ i ∈ l, i ∈ l') {a : Addr} (n : NZ G Z e rt l H a) : NZ G Z e rt l' H a := by
  rcases n with ⟨i, hi, n⟩ | n | ⟨i, hi, n⟩
  · exact .inl ⟨i, h i hi, n⟩
  · exact .inr (.inl n)
  · exact .inr (.inr ⟨i, h i hi, n⟩)
theorem NZ.back {l : List Nat} (s : Same H H1) {a : Addr} (n : NZ G Z e rt l H1 a) : NZ G Z e rt l H a := by
  rcases n with n | n | n
  · exact .inl n
  · exact .inr (.inl (s.free n))
  · exact .inr (.inr n)
theorem RepS.d {N : Addr → Prop} {s : S} {x : V} (h : RepS K N H H1 s x) (hn : ∀ a, H a = none → N a) : Rep K N H1 s.d x := by
  cases s with
  | val d => exact h
  | own ds =>
    obtain ⟨r, xs, e, h1, h2, h3⟩ := h
    exact ⟨r, xs, e, ⟨hn r h1, h2⟩, h3.mono fun a z => z.1⟩
  | dct t kvs => exact h.elim
  | sto _ _ => exact h.elim
  | both d os => exact h.1.mono fun a z => z.1
theorem RepS.mono {N N' : Addr → Prop} {s : S} {x : V} (h : RepS K N H H1 s x) (f : ∀ a, N a → N' a) : RepS K N' H H1 s x := by
  cases s with
  | val d => exact Rep.mono f h
  | own ds =>
    obtain ⟨r, xs, e, h1, h2, h3⟩ := h
    exact ⟨r, xs, e, h1, h2, h3.mono fun a z => ⟨f a z.1, z.2⟩⟩
  | dct t kvs => exact h.elim
  | sto _ _ => exact h.elim
  | both d os => exact ⟨h.1.mono fun a z => ⟨f a z.1, z.2⟩, h.2.1.mono fun a z => ⟨f a z.1, z.2⟩, h.2.2⟩
/-- reckoned from a later heap on -/
theorem RepS.back {N : Addr → Prop} {s : S} {x : V} {H0 : Hp} (h : RepS K N H H1 s x) (sm : Same H0 H) : RepS K N H0 H1 s x := by
  cases s with
  | val d => exact h
  | own ds =>
    obtain ⟨r, xs, e, h1, h2, h3⟩ := h
    exact ⟨r, xs, e, sm.free h1, h2, h3⟩
  | dct t kvs => exact h.elim
  | sto _ _ => exact h.elim
  | both d os => exact ⟨h.1, h.2.1, h.2.2.1, fun k a z => sm.free (h.2.2.2 k a z)⟩
theorem RepS.same {N : Addr → Prop} {s : S} {x : V} (h : RepS K N H H1 s x) (sm : Same H1 H2) : RepS K N H H2 s x := by
  cases s with
  | val d => exact Rep.same sm h
  | own ds =>
    obtain ⟨r, xs, e, h1, h2, h3⟩ := h
    exact ⟨r, xs, e, h1, sm _ _ h2, h3.same sm⟩
  | dct t kvs => exact h.elim
  | sto _ _ => exact h.elim
  | both d os => exact ⟨h.1.same sm, h.2.1.same sm, ⟨fun k a z w => h.2.2.1.1 k a z (sm.free w), h.2.2.1.2⟩, h.2.2.2⟩
end

theorem RepO.of {T : Tkn} {K : PySem.W.Frag} {N : Addr → Prop} {H H1 : Hp} {s : S} {x : V} (h : RepS K N H H1 s x) : RepO K N H H1 s x := h

/-! ### readings -/
/-- xr, from an earlier heap on -/
def XC (xr : Hp → D → Value → Option Addr → Hp → Prop) (H : Hp) (d : D) (c : Value) (o : Option Addr) (H' : Hp) : Prop := ∃ H1, Same H H1 ∧ xr H1 d c o H'
theorem XC.mo {xr : Hp → D → Value → Option Addr → Hp → Prop} {H H1 H' : Hp} {d : D} {c : Value} {o : Option Addr} (h : XC xr H1 d c o H') (s : Same H H1) : XC xr H d c o H' := let ⟨H2, s2, x⟩ := h; ⟨H2, s.trans s2, x⟩
theorem XC.imp {xr xr' : Hp → D → Value → Option Addr → Hp → Prop} {H H' : Hp} {d : D} {c : Value} {o : Option Addr} (h : XC xr H d c o H') (f : ∀ H0 d c o H, xr H0 d c o H → xr' H0 d c o H) : XC xr' H d c o H' := let ⟨H2, s2, x⟩ := h; ⟨H2, s2, f _ _ _ _ _ x⟩
/-- how an exception of the pure run lies in the heap (its class, its dict), and what is wished of it -/
structure Wi where
  xr : Hp → D → Value → Option Addr → Hp → Prop
  w : WX
  g : Nat → Nat
  fr : Bool
  st : Bool

/-- an expression's: m, sharing with the slots in l -/
def tE (K : PySem.W.Frag) (W : Wi) (m : Ex) (l : List Nat) : TE := fun σ H Q => ∃ (T : Tkn) (B : Addr → Prop) (Z : Nat → Addr → Prop) (rt : Nat → Addr) (e : En), Rel K B W.g Z rt e σ H ∧
  match m e with
  | .ok s => ∀ x H', Same H H' → RepS K (NZ W.g Z e rt l H) H H' s x → Q x H'
  | .ex d => ∀ c o H', Same H H' → (XC W.xr H d c o H' → W.w c o σ H')
  | .bad => False
def tA (K : PySem.W.Frag) (W : Wi) (m : Ax) (l : List Nat) : TA := fun σ H Q => ∃ (T : Tkn) (B : Addr → Prop) (Z : Nat → Addr → Prop) (rt : Nat → Addr) (e : En), Rel K B W.g Z rt e σ H ∧
  match m e with
  | .ok ds => ∀ xs H', Same H H' → RepL K (NZ W.g Z e rt l H) H' ds xs → Q xs H'
  | .ex d => ∀ c o H', Same H H' → (XC W.xr H d c o H' → W.w c o σ H')
  | .bad => False
def tT (K : PySem.W.Frag) (W : Wi) (m : Tx) : TT := fun σ H Q => ∃ (T : Tkn) (B : Addr → Prop) (Z : Nat → Addr → Prop) (rt : Nat → Addr) (e : En), Rel K B W.g Z rt e σ H ∧
  match m e with
  | .ok b => ∀ H', Same H H' → Q b H'
  | .ex d => ∀ c o H', Same H H' → (XC W.xr H d c o H' → W.w c o σ H')
  | .bad => False

abbrev SE (X : Cx) (W : Wi) (x : Expr) (m : Ex) (l : List Nat) : Prop := PE X x (tE X.K W m l)
abbrev SA (X : Cx) (W : Wi) (x : List Expr) (m : Ax) (l : List Nat) : Prop := PA X x (tA X.K W m l)
abbrev ST (X : Cx) (W : Wi) (x : Expr) (m : Tx) : Prop := PT X x (tT X.K W m)

section
variable {X : Cx} {W : Wi}
theorem PE.imp {x : Expr} {t t' : TE} (h : PE X x t) (f : ∀ σ H Q, t' σ H Q → t σ H Q) : PE X x t' := ⟨fun pins s σ H Q I q => h.run pins s σ H Q I (f σ H Q q)⟩
theorem PA.imp {x : List Expr} {t t' : TA} (h : PA X x t) (f : ∀ σ H Q, t' σ H Q → t σ H Q) : PA X x t' := ⟨fun pos pins s σ H Q I q => h.run pos pins s σ H Q I (f σ H Q q)⟩
theorem PT.imp {x : Expr} {t t' : TT} (h : PT X x t) (f : ∀ σ H Q, t' σ H Q → t σ H Q) : PT X x t' := ⟨fun pins s σ H Q I q => h.run pins s σ H Q I (f σ H Q q)⟩
theorem PS.imp {x : Stmt} {t t' : TS} (h : PS X x t) (f : ∀ D σ H, t' D σ H → t D σ H) : PS X x t' := ⟨fun pins s σ H D I q => h.run pins s σ H D I (f D σ H q)⟩
theorem PSs.imp {x : List Stmt} {t t' : TS} (h : PSs X x t) (f : ∀ D σ H, t' D σ H → t D σ H) : PSs X x t' := ⟨fun pins s σ H D I q => h.run pins s σ H D I (f D σ H q)⟩

/-- one expression, then the rest -/
theorem tE_go {T : Tkn} {K : PySem.W.Frag} {m : Ex} {l : List Nat} {σ : L2.St} {H : Hp} {Q : VK} {B : Addr → Prop} {Z : Nat → Addr → Prop} {rt : Nat → Addr} {e : En} (r : Rel K B W.g Z rt e σ H)
    (hx : ∀ d, m e = .ex d → ∀ c o H', Same H H' → (XC W.xr H d c o H' → W.w c o σ H')) (hb : m e ≠ .bad)
    (h : ∀ s x H', m e = .ok s → Same H H' → Rel K B W.g Z rt e σ H' → RepS K (NZ W.g Z e rt l H) H H' s x → Q x H') : tE K W m l σ H Q := by
  refine ⟨T, B, Z, rt, e, r, ?_⟩
  cases q : m e with
  | ok s => exact fun x H' sm rs => h s x H' q sm (r.ext sm) rs
  | ex d => exact hx d q
  | bad => exact hb q
theorem tA_go {T : Tkn} {K : PySem.W.Frag} {m : Ax} {l : List Nat} {σ : L2.St} {H : Hp} {Q : List V → Hp → Prop} {B : Addr → Prop} {Z : Nat → Addr → Prop} {rt : Nat → Addr} {e : En} (r : Rel K B W.g Z rt e σ H)
    (hx : ∀ d, m e = .ex d → ∀ c o H', Same H H' → (XC W.xr H d c o H' → W.w c o σ H')) (hb : m e ≠ .bad)
    (h : ∀ ds xs H', m e = .ok ds → Same H H' → Rel K B W.g Z rt e σ H' → RepL K (NZ W.g Z e rt l H) H' ds xs → Q xs H') : tA K W m l σ H Q := by
  refine ⟨T, B, Z, rt, e, r, ?_⟩
  cases q : m e with
  | ok s => exact fun x H' sm rs => h s x H' q sm (r.ext sm) rs
  | ex d => exact hx d q
  | bad => exact hb q
theorem tT_go {T : Tkn} {K : PySem.W.Frag} {m : Tx} {σ : L2.St} {H : Hp} {Q : Bool → Hp → Prop} {B : Addr → Prop} {Z : Nat → Addr → Prop} {rt : Nat → Addr} {e : En} (r : Rel K B W.g Z rt e σ H)
    (hx : ∀ d, m e = .ex d → ∀ c o H', Same H H' → (XC W.xr H d c o H' → W.w c o σ H')) (hb : m e ≠ .bad)
    (h : ∀ b H', m e = .ok b → Same H H' → Rel K B W.g Z rt e σ H' → Q b H') : tT K W m σ H Q := by
  refine ⟨T, B, Z, rt, e, r, ?_⟩
  cases q : m e with
  | ok s => exact fun H' sm => h s H' q sm (r.ext sm)
  | ex d => exact hx d q
  | bad => exact hb q

/-- sharing with more -/
theorem x_al {x : Expr} {m : Ex} {l l' : List Nat} (h : SE X W x m l) (s : ∀ i ∈ l, i ∈ l') : SE X W x m l' := PE.imp h fun σ H Q ⟨T, B, Z, rt, e, r, q⟩ => ⟨T, B, Z, rt, e, r, by
  cases k : m e with
  | ok v => rw [k] at q; exact fun x H' sm rs => q x H' sm (rs.mono fun a n => NZ.mono s n)
  | ex d => rw [k] at q; exact q
  | bad => rw [k] at q; exact q⟩

/-! names and constants -/
theorem x_var (i : Nat) {n : Str} {pos : Pos} (hN : X.N[i]? = some n := by rfl) (hv : Vis X.env.scope n := by first | exact Or.inl rfl | exact Or.inr (Or.inl rfl) | exact Or.inr (Or.inr rfl))
    (hd : (n == ("__debug__" : Str)) = false := by decide) (hcd : (n == ("__classdict__" : Str)) = false := by decide) : SE X W (.Name n pos) (eVar i) [i] := by
  refine PE.imp (pe_var hN hv hd hcd) fun σ H Q ⟨T, B, Z, rt, e, r, q⟩ => ?_
  unfold eVar at q
  cases k : e[i]? with
  | none => rw [k] at q; exact q.elim
  | some o =>
    cases o with
    | none => rw [k] at q; exact q.elim
    | some s =>
      rw [k] at q
      cases s with
      | val d =>
        obtain ⟨x, h1, h2⟩ := r.val i d k
        exact ⟨x, h1, q x H (Same.refl H) (h2.mono fun a z => .inl ⟨i, List.mem_singleton.mpr rfl, z⟩)⟩
      | own ds =>
        obtain ⟨h1, h2, h3, xs, h4, h5⟩ := r.own i ds k
        exact ⟨_, h1, q _ H (Same.refl H) ⟨_, _, rfl, ⟨.inr (.inr ⟨i, List.mem_singleton.mpr rfl, .inl ⟨⟨ds, k⟩, rfl⟩⟩), h4⟩, h5.mono fun a z => .inl ⟨i, List.mem_singleton.mpr rfl, z⟩⟩⟩
      | dct t kvs => exact q.elim
      | sto _ _ => exact q.elim
      | both _ _ => exact q.elim
/-- a constant reading -/
theorem x_const {x : Expr} {v : V} {d : D} (h : PE X x (tC v)) (hd : ∀ {T : Tkn} (N : Addr → Prop) (H : Hp), Rep X.K N H d v) : SE X W x (eC d) [] :=
  PE.imp h fun σ H Q ⟨T, B, Z, rt, e, r, q⟩ => q v H (Same.refl H) (hd _ H)
theorem x_int {i : Int} {j pos} : SE X W (.Constant (.int i) j pos) (eInt i) [] := x_const pe_int fun _ _ => rfl
theorem x_bl {i : Bool} {j pos} : SE X W (.Constant (.bool i) j pos) (eBl i) [] := x_const pe_bl fun _ _ => rfl
theorem x_str {i : Str} (s : List Nat) {j pos} (h : i = ⟨s.toArray⟩ := by decide +kernel) : SE X W (.Constant (.str i) j pos) (eStr s) [] := x_const pe_str fun _ _ => by rw [h]; rfl
theorem x_non {j pos} : SE X W (.Constant .none j pos) eNon [] := x_const pe_non fun _ _ => rfl
/-- a constant of the module: an int, a text -/
theorem x_gint {n : Str} {i : Int} {t : Tok} {pos : Pos} (hm : X.mg n = some (.int i t)) (hg : Gl X n := by rfl) (hd : (n == ("__debug__" : Str)) = false := by decide) : SE X W (.Name n pos) (eInt i) [] := x_const (pe_glob hg hm (show RelV (.int i) (.int i t) from ⟨t, rfl⟩) hd) fun _ _ => rfl
theorem x_gstr {n : Str} {i : Str} (s : List Nat) {t : Tok} {pos : Pos} (hm : X.mg n = some (.str i t)) (hi : i = ⟨s.toArray⟩) (hg : Gl X n := by rfl) (hd : (n == ("__debug__" : Str)) = false := by decide) : SE X W (.Name n pos) (eStr s) [] := x_const (pe_glob hg hm (show RelV (.str i) (.str i t) from ⟨t, rfl⟩) hd) fun _ _ => by rw [hi]; rfl

/-! operators by values: f over data, r over values -/
/-- what a result must be for: new nodes and those of N -/
def OkR [Tkn] (K : PySem.W.Frag) (N : Addr → Prop) (H : Hp) (Q : VK) : R S → Prop
  | .ok s => ∀ x H', Same H H' → RepS K (fun a => N a ∨ H a = none) H H' s x → Q x H'
  | _ => False
def Op1 (K : PySem.W.Frag) (r : V → Hp → VK → Prop) (f : D → R S) : Prop := ∀ {T : Tkn} (N : Addr → Prop) (H : Hp) (d : D) (x : V) (Q : VK), Rep K N H d x → OkR K N H Q (f d) → r x H Q
def Op2 (K : PySem.W.Frag) (r : R2) (f : D → D → R S) : Prop := ∀ {T : Tkn} (N : Addr → Prop) (H : Hp) (d c : D) (x y : V) (Q : VK), Rep K N H d x → Rep K N H c y → OkR K N H Q (f d c) → r x y H Q
theorem okR_of {T : Tkn} {K : PySem.W.Frag} {N N' : Addr → Prop} {H : Hp} {Q : VK} {m : R S} (hb : m ≠ .bad) (hx : ∀ d, m ≠ .ex d) (hn : ∀ a, N a ∨ H a = none → N' a) (h : ∀ s, m = .ok s → ∀ x H', Same H H' → RepS K N' H H' s x → Q x H') : OkR K N H Q m := by
  cases m with
  | ok s => exact fun x H' sm rs => h s rfl x H' sm (rs.mono hn)
  | ex d => exact hx d rfl
  | bad => exact hb rfl
/-- f raises nothing -/
def NoEx2 (f : D → D → R S) : Prop := ∀ d c e, f d c ≠ .ex e
def NoEx1 (f : D → R S) : Prop := ∀ d e, f d ≠ .ex e
theorem sim2 {r : R2} {f : D → D → R S} {m n : Ex} {l k : List Nat} (o : Op2 X.K r f) (hx : NoEx2 f) (σ : L2.St) (H : Hp) (Q : VK) (q : tE X.K W (eOp2 f m n) (l ++ k) σ H Q) : tOp r (tE X.K W m l) (tE X.K W n k) σ H Q := by
  obtain ⟨T, B, Z, rt, e, r0, q⟩ := q
  unfold eOp2 at q
  refine tE_go r0 (fun d hd => by rw [hd] at q; exact q) (fun hd => by rw [hd] at q; exact q) fun s x H1 hs sm1 r1 rs => ?_
  rw [hs] at q
  refine tE_go r1 (fun d hd c o H' sm => by
    rw [R.bind_ok, hd] at q
    exact (fun z9 => q c o H' (sm1.trans sm) (z9.mo sm1))) (fun hd => by rw [R.bind_ok, hd] at q; exact q) fun s2 y H2 hs2 sm2 r2 rs2 => ?_
  rw [R.bind_ok, hs2, R.bind_ok] at q
  have e1 : Rep X.K (NZ W.g Z e rt (l ++ k) H) H2 s.d x := ((rs.mono fun a z => NZ.mono (fun i hi => List.mem_append_left _ hi) z).d fun a z => .inr (.inl z)).same sm2
  have e2 : Rep X.K (NZ W.g Z e rt (l ++ k) H) H2 s2.d y := (rs2.mono fun a z => (NZ.mono (fun i hi => List.mem_append_right _ hi) z).back sm1).d fun a z => .inr (.inl (sm1.free z))
  refine o _ H2 _ _ x y Q e1 e2 (okR_of (N' := NZ W.g Z e rt (l ++ k) H) (fun h => by rw [h] at q; exact q) (hx _ _) (fun a z => ?_) fun s3 h3 x3 H3 sm3 rs3 => ?_)
  · rcases z with z | z
    · exact z
    · exact .inr (.inl ((sm1.trans sm2).free z))
  · rw [h3] at q
    exact q x3 H3 ((sm1.trans sm2).trans sm3) (rs3.back (sm1.trans sm2))
theorem sim1 {r : V → Hp → VK → Prop} {f : D → R S} {m : Ex} {l : List Nat} (o : Op1 X.K r f) (hx : NoEx1 f) (σ : L2.St) (H : Hp) (Q : VK) (q : tE X.K W (eOp1 f m) l σ H Q) : tUn r (tE X.K W m l) σ H Q := by
  obtain ⟨T, B, Z, rt, e, r0, q⟩ := q
  unfold eOp1 at q
  refine tE_go r0 (fun d hd => by rw [hd] at q; exact q) (fun hd => by rw [hd] at q; exact q) fun s x H1 hs sm1 r1 rs => ?_
  rw [hs, R.bind_ok] at q
  refine o _ H1 _ x Q (rs.d fun a z => .inr (.inl z)) (okR_of (N' := NZ W.g Z e rt l H) (fun h => by rw [h] at q; exact q) (hx _) (fun a z => ?_) fun s3 h3 x3 H3 sm3 rs3 => ?_)
  · rcases z with z | z
    · exact z
    · exact .inr (.inl (sm1.free z))
  · rw [h3] at q
    exact q x3 H3 (sm1.trans sm3) (rs3.back sm1)
/-- a result that bears no list shares with nothing -/
theorem x_flat {x : Expr} {m : Ex} {l : List Nat} (h : SE X W x m l) (f : ∀ e s, m e = .ok s → ∃ d, s = .val d ∧ d.flat = true) : SE X W x m [] := PE.imp h fun σ H Q ⟨T, B, Z, rt, e, r, q⟩ => ⟨T, B, Z, rt, e, r, by
  cases k : m e with
  | ok v =>
    rw [k] at q
    obtain ⟨d, rfl, fd⟩ := f e v k
    exact fun x H' sm rs => q x H' sm (Rep.flat (Still.refl _) d x fd rs)
  | ex d => rw [k] at q; exact q
  | bad => rw [k] at q; exact q⟩

/-! argument lists, displays -/
theorem a_nil : SA X W [] aNil [] := PA.imp pa_nil fun σ H Q ⟨T, B, Z, rt, e, r, q⟩ => q [] H (Same.refl H) rfl
theorem a_cons {x : Expr} {xs : List Expr} {m : Ex} {n : Ax} {l k : List Nat} (h : SE X W x m l) (g : SA X W xs n k) (hs : starEach (x :: xs) X.env = (false, eval x X.env) :: starEach xs X.env := by rfl) : SA X W (x :: xs) (aCons m n) (l ++ k) := by
  refine PA.imp (pa_cons h g hs) fun σ H Q ⟨T, B, Z, rt, e, r0, q⟩ => ?_
  unfold aCons at q
  refine tE_go r0 (fun d hd => by rw [hd] at q; exact q) (fun hd => by rw [hd] at q; exact q) fun s x H1 hs sm1 r1 rs => ?_
  rw [hs] at q
  refine tA_go r1 (fun d hd c o H' sm => by
    rw [R.bind_ok, hd] at q
    exact (fun z9 => q c o H' (sm1.trans sm) (z9.mo sm1))) (fun hd => by rw [R.bind_ok, hd] at q; exact q) fun ds ys H2 hs2 sm2 r2 rs2 => ?_
  rw [R.bind_ok, hs2, R.bind_ok] at q
  refine q _ H2 (sm1.trans sm2) ⟨x, ys, rfl, ((rs.mono fun a z => NZ.mono (fun i hi => List.mem_append_left _ hi) z).d fun a z => .inr (.inl z)).same sm2, rs2.mono fun a z => (NZ.mono (fun i hi => List.mem_append_right _ hi) z).back sm1⟩
theorem small_line {n : Nat} (h : n ≤ 100) : n ≤ sizeLine := Nat.le_trans h (by decide)
theorem aLen_nil : ∀ e ds, aNil e = R.ok ds → ds.length = 0 := fun e ds h => by cases h; rfl
theorem aLen_cons {m : Ex} {n : Ax} {k : Nat} (g : ∀ e ds, n e = R.ok ds → ds.length = k) : ∀ e ds, aCons m n e = R.ok ds → ds.length = k + 1 := fun e ds h => by
  unfold aCons at h
  cases h1 : m e with
  | ok s =>
    rw [h1, R.bind_ok] at h
    cases h2 : n e with
    | ok es =>
      rw [h2, R.bind_ok] at h
      cases h
      rw [List.length_cons, g e es h2]
    | ex d => rw [h2] at h; cases h
    | bad => rw [h2] at h; cases h
  | ex d => rw [h1] at h; cases h
  | bad => rw [h1] at h; cases h
theorem x_tup {xs : List Expr} {m : Ax} {l : List Nat} {k : Nat} {j pos} (h : SA X W xs m l) (hl : ∀ e ds, m e = .ok ds → ds.length = k) (hk : k ≤ 100 := by decide) : SE X W (.Tuple xs j pos) (eTup m) l := by
  refine PE.imp (pe_tup h) fun σ H Q ⟨T, B, Z, rt, e, r0, q⟩ => ?_
  unfold eTup at q
  refine tA_go r0 (fun d hd => by rw [hd] at q; exact q) (fun hd => by rw [hd] at q; exact q) fun ds ys H1 hs sm1 r1 rs => ?_
  rw [hs, R.bind_ok] at q
  refine ⟨by rw [rs.length, hl e ds hs]; exact small_line hk, fun p hp => ?_⟩
  have sm2 : Same H1 (upd H1 p (.tup ys)) := fun b o z => by rw [upd_ne (ne_of_none z hp)]; exact z
  exact q _ _ (sm1.trans sm2) ⟨p, ys, rfl, upd_same, rs.same sm2⟩
theorem x_lst {xs : List Expr} {m : Ax} {l : List Nat} {k : Nat} {pos} (h : SA X W xs m l) (hl : ∀ e ds, m e = .ok ds → ds.length = k) (hk : k ≤ 100 := by decide) : SE X W (.List xs pos) (eLst m) l := by
  refine PE.imp (pe_lst h) fun σ H Q ⟨T, B, Z, rt, e, r0, q⟩ => ?_
  unfold eLst at q
  refine tA_go r0 (fun d hd => by rw [hd] at q; exact q) (fun hd => by rw [hd] at q; exact q) fun ds ys H1 hs sm1 r1 rs => ?_
  rw [hs, R.bind_ok] at q
  refine ⟨by rw [rs.length, hl e ds hs]; exact small_line hk, fun p hp => ?_⟩
  have sm2 : Same H1 (upd H1 p (.lst ys)) := fun b o z => by rw [upd_ne (ne_of_none z hp)]; exact z
  refine q _ _ (sm1.trans sm2) ⟨p, ys, rfl, sm1.free hp, upd_same, ?_⟩
  -- the items' nodes stand in H1 already
  exact RepL.imp (fun a zs n r => ⟨⟨n, ne_of_none r hp⟩, sm2 _ _ r⟩) (Same.still sm2) ds ys rs
end
end Tg

/-! Tg, part 5: the operators' rules. -/
namespace Tg
open PySem PySem.Spec PyProof.Rows L2

theorem lim_line {n : Nat} (h : n ≤ LIM) : n ≤ sizeLine := Nat.le_trans h (by decide)
theorem str_len (a : List Nat) : (⟨a.toArray⟩ : Str).length = a.length := by
  show a.toArray.size = a.length
  simp
theorem str_app (a b : List Nat) : (⟨a.toArray⟩ : Str) ++ ⟨b.toArray⟩ = ⟨(a ++ b).toArray⟩ := by
  show Str.append _ _ = _
  unfold Str.append
  simp
theorem same_new {H : Hp} {p : Addr} {o : HO} (hp : H p = none) : Same H (upd H p o) := fun b u z => by
  rw [upd_ne (ne_of_none z hp)]
  exact z
section
variable {T : Tkn} {K : PySem.W.Frag} {N : Addr → Prop} {H : Hp} {Q : VK}
theorem ok_if {c : Prop} [Decidable c] {a : R S} (h : OkR K N H Q (if c then a else .bad)) : c ∧ OkR K N H Q a := by
  by_cases hc : c
  · rw [if_pos hc] at h
    exact ⟨hc, h⟩
  · rw [if_neg hc] at h
    exact False.elim h
theorem ok_int {i : Int} (h : OkR K N H Q (.ok (.val (.int i)))) : Q (.int i) H := h _ H (Same.refl H) rfl
theorem ok_bl {i : Bool} (h : OkR K N H Q (.ok (.val (.bl i)))) : Q (.bl i) H := h _ H (Same.refl H) rfl
theorem ok_str {i : List Nat} (h : OkR K N H Q (.ok (.val (.str i)))) : Q (.str ⟨i.toArray⟩) H := h _ H (Same.refl H) rfl
/-- a new list -/
theorem ok_own {ds : List D} {xs : List V} (h : OkR K N H Q (.ok (.own ds))) (r : RepL K N H ds xs) {p : Addr} (hp : H p = none) : Q (.ref p) (upd H p (.lst xs)) := by
  refine h _ _ (same_new hp) ⟨p, xs, rfl, hp, upd_same, ?_⟩
  exact RepL.imp (fun a zs n r => ⟨⟨.inl n, ne_of_none r hp⟩, same_new hp _ _ r⟩) (Same.still (same_new hp)) ds xs r
theorem ok_tup {ds : List D} {xs : List V} (h : OkR K N H Q (.ok (.val (.tup ds)))) (r : RepL K N H ds xs) {p : Addr} (hp : H p = none) : Q (.ref p) (upd H p (.tup xs)) :=
  h _ _ (same_new hp) ⟨p, xs, rfl, upd_same, (r.same (same_new hp)).mono fun a z => .inl z⟩
theorem ok_val {d : D} {x : V} (h : OkR K N H Q (.ok (.val d))) (r : Rep K N H d x) : Q x H := h _ H (Same.refl H) (r.mono fun a z => .inl z)
theorem RepL.nil_iff {ds : List D} {xs : List V} (r : RepL K N H ds xs) : xs = [] ↔ ds = [] := by
  have e := RepL.length r
  constructor
  · intro h
    rw [h] at e
    exact List.eq_nil_of_length_eq_zero e.symm
  · intro h
    rw [h] at e
    exact List.eq_nil_of_length_eq_zero e
end

def rAdd4 (K : PySem.W.Frag) : R2 := fun x y H Q => rI0 (fun i j => .int (i + j)) x y H Q ∨ (∃ i j, x = .str i ∧ y = .str j ∧ i.length + j.length ≤ sizeLine ∧ Q (.str (i ++ j)) H) ∨ rCatA K x y H Q ∨ rCat x y H Q
theorem op_add4 {X : Cx} : OpR X (binaryOp .Add) (rAdd4 X.K) := op_add.or (op_add_str.or (op_catA.or op_cat))
theorem o_add {K : PySem.W.Frag} : Op2 K (rAdd4 K) oAdd := by
  intro T N H d c x y Q rd rc h
  cases d <;> cases c <;> first | exact False.elim h | skip
  · rename_i i j
    obtain rfl : x = .int i := rd
    obtain rfl : y = .int j := rc
    exact .inl ⟨_, _, rfl, rfl, ok_int h⟩
  · rename_i i j
    obtain rfl : x = .str ⟨i.toArray⟩ := rd
    obtain rfl : y = .str ⟨j.toArray⟩ := rc
    obtain ⟨hl, h⟩ := ok_if h
    refine .inr (.inl ⟨_, _, rfl, rfl, by rw [str_len, str_len]; exact lim_line hl, ?_⟩)
    rw [str_app]
    exact ok_str h
  · rename_i ds es
    obtain ⟨a, xs, rfl, s1, r1⟩ := rd
    obtain ⟨b, ys, rfl, s2, r2⟩ := rc
    obtain ⟨hl, h⟩ := ok_if h
    refine .inr (.inr (.inl ⟨a, b, xs, ys, rfl, rfl, sqt s1, sqt s2, by rw [r1.length, r2.length]; exact lim_line hl, fun e => ?_, fun _ e => ?_, fun _ _ p hp => ok_tup h (r1.append r2) hp⟩))
    · have e' := r1.nil_iff.mp e
      subst e'
      exact ok_val h ⟨b, ys, rfl, s2, r2⟩
    · have e' := r2.nil_iff.mp e
      subst e'
      rw [List.append_nil] at h
      exact ok_val h ⟨a, xs, rfl, s1, r1⟩
  · rename_i ds es
    obtain ⟨a, xs, rfl, s1, r1⟩ := rd
    obtain ⟨b, ys, rfl, s2, r2⟩ := rc
    obtain ⟨hl, h⟩ := ok_if h
    exact .inr (.inr (.inr ⟨a, b, xs, ys, rfl, rfl, s1.2, s2.2, by rw [r1.length, r2.length]; exact lim_line hl, fun p hp => ok_own h (r1.append r2) hp⟩))
/-- str * int -/
def rMulS : R2 := fun x y H Q => ∃ (a : List Nat) (k : Int), x = .str ⟨a.toArray⟩ ∧ y = .int k ∧ k ≤ 1000 ∧ -1000 ≤ k ∧ a.length ≤ 1000 ∧ Q (.str ⟨(List.replicate k.toNat a).flatten.toArray⟩) H
theorem rep_foldl (a : List Nat) : ∀ n : Nat, ∀ acc : Array Nat, (List.replicate n a.toArray).foldl (· ++ ·) acc = acc ++ (List.replicate n a).flatten.toArray
  | 0, acc => by simp
  | n + 1, acc => by
    rw [List.replicate_succ, List.foldl_cons, rep_foldl a n, List.replicate_succ, List.flatten_cons]
    simp
theorem op_mulS {X : Cx} : OpR X (binaryOp .Mult) rMulS := by
  intro pins s σ H x y v u Q I rx ry h
  obtain ⟨a, k, rfl, rfl, h1, h2, h3, q⟩ := h
  obtain ⟨t, rfl⟩ := rx
  obtain ⟨t', rfl⟩ := ry
  have big : (a.length * k.toNat : Nat) ≤ 1000000 := by
    have : k.toNat ≤ 1000 := by omega
    exact Nat.mul_le_mul h3 this
  have sl : sizeLine = 16777216 := by decide
  refine PySem.P.mul_str (by rw [decide_eq_false (by omega), decide_eq_false (by omega)]; rfl) (fun hk hne => ?_) (fun hk hne => ?_) ?_
  · rw [str_len]
    have hk' : 0 < k := by omega
    intro hgt
    have e1 : (2 ^ 63 - 1) / k ≥ (2 ^ 63 - 1) / 1000 := by
      refine (Int.le_ediv_iff_mul_le hk').mpr ?_
      have : (2 ^ 63 - 1 : Int) / 1000 * k ≤ (2 ^ 63 - 1 : Int) / 1000 * 1000 := Int.mul_le_mul_of_nonneg_left h1 (by decide)
      have e2 : (2 ^ 63 - 1 : Int) / 1000 * 1000 ≤ 2 ^ 63 - 1 := by decide
      omega
    have e3 : (1000 : Int) ≤ (2 ^ 63 - 1) / 1000 := by decide
    omega
  · rw [str_len]
    have : ¬ a.length * k.toNat > sizeLine := by omega
    show Builtin.Str.tooLong _ = false
    unfold Builtin.Str.tooLong
    simp [this]
  · split
    · rename_i hk
      have e0 : k.toNat = 0 := by omega
      rw [e0] at q
      exact ⟨by decide, ⟨.str _, H, I.tok _, ⟨_, rfl⟩, q⟩⟩
    · rename_i hk
      split
      · rename_i hq
        rw [Bool.or_eq_true] at hq
        rcases hq with hq | hq
        · have e1 : k = 1 := by simpa using hq
          subst e1
          have e2 : (List.replicate (1 : Int).toNat a).flatten = a := by simp
          rw [e2] at q
          exact ⟨.str _, H, I, ⟨_, rfl⟩, q⟩
        · have e1 : a.length = 0 := by
            rw [str_len] at hq
            simpa using hq
          have e2 : a = [] := List.eq_nil_of_length_eq_zero e1
          subst e2
          have e3 : (List.replicate k.toNat ([] : List Nat)).flatten = [] := by simp
          rw [e3] at q
          exact ⟨.str _, H, I, ⟨_, rfl⟩, q⟩
      · have e4 : (List.replicate k.toNat (⟨a.toArray⟩ : Str).cps).foldl (· ++ ·) #[] = (List.replicate k.toNat a).flatten.toArray := by
          have := rep_foldl a k.toNat #[]
          simpa using this
        show Made.post (Made.str ⟨(List.replicate k.toNat (⟨a.toArray⟩ : Str).cps).foldl (· ++ ·) #[]⟩) _ _
        rw [e4]
        refine ⟨?_, ⟨.str _, H, I.tok _, ⟨_, rfl⟩, q⟩⟩
        show (List.replicate k.toNat a).flatten.toArray.size ≤ _
        simp
        have : (List.replicate k.toNat a).flatten.length = k.toNat * a.length := by simp
        first | omega | (rw [Nat.mul_comm] at big; omega)
end Tg

/-! Tg: a tuple times 0 or 1. -/
namespace Tg
open PySem PySem.Spec PyProof.Rows L2
theorem mul_one (l : Addr) (items : Array Value) (n : Nat) (dd : Option Addr) (sl : Array (Option Value)) (x : Int) (u : Tok) (c0 : (decide (x < -(2 ^ 63)) || decide (x ≥ 2 ^ 63)) = false) (c1 : (items.isEmpty || x == 1) = true) :
    Meets (Builtin.«tuple.__mul__» ⟨[.ref l, .int x u], []⟩) (fun _ R s => s.heap.get? l = some { cls := .type "tuple", dict := dd, data := .seq items n, slots := sl } ∧ R (.ok (.ret (Value.ref l))) s) :=
  .of_wp fun prog w A R s h => by
    obtain ⟨hp, g, d, tk, os⟩ := s
    obtain ⟨hl, h⟩ := h
    have f1 := AutoSeq1.idx_int
    wp_walk using wpAny_loadPart' hl
    repeat (first
      | (refine wpAny_ite_false (decide_eq_false (by rw [c0]; exact Bool.false_ne_true)) ?_; wp_walk using wpAny_loadPart' hl)
      | (refine wpAny_ite_true (decide_eq_true c1) ?_; wp_walk using wpAny_loadPart' hl))
    exact ⟨_, rfl, h⟩
theorem mul_zero' (l : Addr) (items : Array Value) (n : Nat) (dd : Option Addr) (sl : Array (Option Value)) (x : Int) (u : Tok) (c0 : (decide (x < -(2 ^ 63)) || decide (x ≥ 2 ^ 63)) = false) (c1 : (items.isEmpty || x == 1) = false) (c2 : (decide (x ≤ 0) || items.isEmpty) = true) :
    Meets (Builtin.«tuple.__mul__» ⟨[.ref l, .int x u], []⟩) (fun _ R s => s.heap.get? l = some { cls := .type "tuple", dict := dd, data := .seq items n, slots := sl } ∧
      R (.ok (.ret (Value.ref s.heap.objs.size))) { s with heap := s.heap.push { cls := Value.type "tuple", data := Data.seq #[] }, toks := s.toks }) :=
  .of_wp fun prog w A R s h => by
    obtain ⟨hp, g, d, tk, os⟩ := s
    obtain ⟨hl, h⟩ := h
    have f1 := AutoSeq1.idx_int
    wp_walk using wpAny_loadPart' hl
    repeat (first
      | (refine wpAny_ite_false (decide_eq_false (by rw [c0]; exact Bool.false_ne_true)) ?_; wp_walk using wpAny_loadPart' hl)
      | (refine wpAny_ite_false (decide_eq_false (by rw [c1]; exact Bool.false_ne_true)) ?_; wp_walk using wpAny_loadPart' hl)
      | (refine wpAny_ite_true (decide_eq_true c2) ?_; wp_walk using wpAny_loadPart' hl))
    exact ⟨_, rfl, h⟩
/-- t * k, k 0 or 1 -/
def rMulT (K : PySem.W.Frag) : R2 := fun x y H Q => ∃ l k xs, x = .ref l ∧ y = .int k ∧ SqT K H l xs ∧ xs ≠ [] ∧ ((k = 1 ∧ Q (.ref l) H) ∨ (k = 0 ∧ ∀ p, H p = none → Q (.ref p) (upd H p (.tup []))))
theorem op_mulT {X : Cx} : OpR X (binaryOp .Mult) (rMulT X.K) := by
  intro pins s σ H x y v u Q I rx ry h
  obtain ⟨l, k, xs, rfl, rfl, hT, hne, h01⟩ := h
  cases rx
  obtain ⟨t, rfl⟩ := ry
  obtain ⟨its, r, ⟨⟨cls, dd, data, sl⟩, ho, hc, n, hd⟩, hs⟩ := I.tuple hT
  simp only at hc hd
  subst hc hd
  have hle : its.length = xs.length := r.length.symm
  have hn : its ≠ [] := fun e => hne (by
    rw [e] at hle
    exact List.eq_nil_of_length_eq_zero hle.symm)
  have hi : its.toArray.isEmpty = false := by
    cases its with
    | nil => exact absurd rfl hn
    | cons a b => rfl
  rcases h01 with ⟨rfl, q⟩ | ⟨rfl, q⟩
  · refine wpAny_binaryOp_repeat_ref (T := "tuple") (U := "int") (by decide) ⟨_, ho, rfl⟩ (fun s' => typeIs_int s' 1 t) noFill_tuple_mul F.fills_int_mul F.slot_int_rmul repeat_tuple F.slot_int_index.lookup
      (call_meets F.slot_int_rmul (typeIs_int s 1 t) F.entry_int_rmul (F.args_int_rmul_2 _ _) (int_rmul_tuple 1 t l its.toArray n dd sl)
        ⟨ho, rfl, ⟨_, ho, rfl⟩, call_meets F.slot_tuple_mul ⟨_, ho, rfl⟩ F.entry_tuple_mul (F.args_tuple_mul_2 _ _) (mul_one l its.toArray n dd sl 1 t (by decide) (by simp)) ⟨ho, ?_⟩⟩)
    exact ⟨.ref l, H, I, rfl, q⟩
  · refine wpAny_binaryOp_repeat_ref (T := "tuple") (U := "int") (by decide) ⟨_, ho, rfl⟩ (fun s' => typeIs_int s' 0 t) noFill_tuple_mul F.fills_int_mul F.slot_int_rmul repeat_tuple F.slot_int_index.lookup
      (call_meets F.slot_int_rmul (typeIs_int s 0 t) F.entry_int_rmul (F.args_int_rmul_2 _ _) (int_rmul_tuple 0 t l its.toArray n dd sl)
        ⟨ho, rfl, ⟨_, ho, rfl⟩, call_meets F.slot_tuple_mul ⟨_, ho, rfl⟩ F.entry_tuple_mul (F.args_tuple_mul_2 _ _) (mul_zero' l its.toArray n dd sl 0 t (by decide) (by rw [hi]; rfl) (by simp)) ⟨ho, ?_⟩⟩)
    refine ⟨.ref s.heap.objs.size, _, I.laid (t' := s.toks) (o := .tup []) (fun b ob q => Heap.get?_push_of_some _ q) (Nat.le_refl _) ?_, rfl, q _ (I.hok.fresh (Nat.le_refl _))⟩
    exact ⟨Nat.zero_le _, [], .nil, IsTup.new _ _⟩
end Tg

/-! Tg, part 6: the operators' rules, further. -/
namespace Tg
open PySem PySem.Spec PyProof.Rows L2
section
variable {K : PySem.W.Frag}
theorem o_sub : Op2 K (rI0 fun i j => .int (i - j)) oSub := by
  intro T N H d c x y Q rd rc h
  cases d <;> cases c <;> first | exact False.elim h | skip
  rename_i i j
  obtain rfl : x = .int i := rd
  obtain rfl : y = .int j := rc
  exact ⟨_, _, rfl, rfl, ok_int h⟩
theorem log_lt {i : Int} {n : Nat} (h0 : 0 < n) (h : i.natAbs < 2 ^ n) : i.natAbs.log2 < n := PySem.Flt.log2_lt_of h0 h
def rMul4 (K : PySem.W.Frag) : R2 := fun x y H Q => rI CMulW (fun i j => .int (i * j)) x y H Q ∨ rRep x y H Q ∨ rMulS x y H Q ∨ rMulT K x y H Q
theorem op_mul4 {X : Cx} : OpR X (binaryOp .Mult) (rMul4 X.K) := op_mulW.or (op_rep.or (op_mulS.or op_mulT))
theorem RepL.rep {T : Tkn} {N : Addr → Prop} {H : Hp} {ds : List D} {xs : List V} (h : RepL K N H ds xs) : ∀ k : Nat, RepL K N H (List.replicate k ds).flatten (List.replicate k xs).flatten
  | 0 => rfl
  | k + 1 => by
    rw [List.replicate_succ, List.replicate_succ, List.flatten_cons, List.flatten_cons]
    exact h.append (RepL.rep h k)
theorem o_mul : Op2 K (rMul4 K) oMul := by
  intro T N H d c x y Q rd rc h
  cases d <;> cases c <;> first | exact False.elim h | skip
  · rename_i i j
    obtain rfl : x = .int i := rd
    obtain rfl : y = .int j := rc
    obtain ⟨hl, h⟩ := ok_if h
    have h1 := log_lt (by decide) hl.1
    have h2 := log_lt (by decide) hl.2
    exact .inl ⟨_, _, rfl, rfl, (by show _ + _ < 1000000; omega), ok_int h⟩
  · rename_i a k
    obtain rfl : x = .str ⟨a.toArray⟩ := rd
    obtain rfl : y = .int k := rc
    obtain ⟨hl, h⟩ := ok_if h
    exact .inr (.inr (.inl ⟨a, k, rfl, rfl, hl.1, hl.2.1, hl.2.2, ok_str h⟩))
  · rename_i ds k
    obtain ⟨a, xs, rfl, s1, r1⟩ := rd
    obtain rfl : y = .int k := rc
    obtain ⟨hl, h⟩ := ok_if h
    refine .inr (.inr (.inr ⟨a, k, xs, rfl, rfl, sqt s1, fun e => hl.1 (r1.nil_iff.mp e), ?_⟩))
    rcases hl.2 with rfl | rfl
    · exact .inl ⟨rfl, ok_val h ⟨a, xs, rfl, s1, r1⟩⟩
    · exact .inr ⟨rfl, fun p hp => ok_tup h rfl hp⟩
  · rename_i ds k
    obtain ⟨a, xs, rfl, s1, r1⟩ := rd
    obtain rfl : y = .int k := rc
    obtain ⟨hl, h⟩ := ok_if h
    have hb : xs.length * k.toNat ≤ sizeLine := by
      rw [r1.length]
      have e1 : k.toNat ≤ 1000 := by omega
      exact Nat.le_trans (Nat.mul_le_mul hl.2.2 e1) (by decide)
    exact .inr (.inl ⟨a, k, xs, rfl, rfl, s1.2, by omega, by omega, hb, fun p hp => ok_own h (r1.rep k.toNat) hp⟩)
theorem o_fdiv : Op2 K (rI CDivW fun i j => .int (i / j)) oFdiv := by
  intro T N H d c x y Q rd rc h
  cases d <;> cases c <;> first | exact False.elim h | skip
  rename_i i j
  obtain rfl : x = .int i := rd
  obtain rfl : y = .int j := rc
  obtain ⟨hl, h⟩ := ok_if h
  have h2 := log_lt (by decide) hl.2
  exact ⟨_, _, rfl, rfl, ⟨hl.1, by omega⟩, ok_int h⟩
theorem o_mod : Op2 K (rI (fun _ j => 0 < j) fun i j => .int (i % j)) oMod := by
  intro T N H d c x y Q rd rc h
  cases d <;> cases c <;> first | exact False.elim h | skip
  rename_i i j
  obtain rfl : x = .int i := rd
  obtain rfl : y = .int j := rc
  obtain ⟨hl, h⟩ := ok_if h
  exact ⟨_, _, rfl, rfl, hl, ok_int h⟩
theorem o_pow : Op2 K (rI CPow fun i j => .int (i ^ j.toNat)) oPow := by
  intro T N H d c x y Q rd rc h
  cases d <;> cases c <;> first | exact False.elim h | skip
  rename_i i j
  obtain rfl : x = .int i := rd
  obtain rfl : y = .int j := rc
  obtain ⟨hl, h⟩ := ok_if h
  exact ⟨_, _, rfl, rfl, ⟨hl.1, by omega, hl.2.2⟩, ok_int h⟩
theorem o_shl : Op2 K (rI CPow fun i j => .int (i * 2 ^ j.toNat)) oShl := by
  intro T N H d c x y Q rd rc h
  cases d <;> cases c <;> first | exact False.elim h | skip
  rename_i i j
  obtain rfl : x = .int i := rd
  obtain rfl : y = .int j := rc
  obtain ⟨hl, h⟩ := ok_if h
  exact ⟨_, _, rfl, rfl, ⟨hl.1, by omega, hl.2.2⟩, ok_int h⟩
theorem o_shr : Op2 K (rI (fun _ j => 0 ≤ j) fun i j => .int (i / 2 ^ j.toNat)) oShr := by
  intro T N H d c x y Q rd rc h
  cases d <;> cases c <;> first | exact False.elim h | skip
  rename_i i j
  obtain rfl : x = .int i := rd
  obtain rfl : y = .int j := rc
  obtain ⟨hl, h⟩ := ok_if h
  exact ⟨_, _, rfl, rfl, hl, ok_int h⟩
theorem o_and : Op2 K (rI0 fun i j => .int (Builtin.bitAnd i j)) oAnd := by
  intro T N H d c x y Q rd rc h
  cases d <;> cases c <;> first | exact False.elim h | skip
  rename_i i j
  obtain rfl : x = .int i := rd
  obtain rfl : y = .int j := rc
  exact ⟨_, _, rfl, rfl, ok_int h⟩
theorem o_or : Op2 K (rI0 fun i j => .int (Builtin.bitOr i j)) oOr := by
  intro T N H d c x y Q rd rc h
  cases d <;> cases c <;> first | exact False.elim h | skip
  rename_i i j
  obtain rfl : x = .int i := rd
  obtain rfl : y = .int j := rc
  exact ⟨_, _, rfl, rfl, ok_int h⟩
theorem o_neg : Op1 K (rU fun i => .int (-i)) oNeg := by
  intro T N H d x Q rd h
  cases d <;> first | exact False.elim h | skip
  rename_i i
  obtain rfl : x = .int i := rd
  exact ⟨_, rfl, ok_int h⟩
theorem toList_str (a : List Nat) : (⟨a.toArray⟩ : Str).cps.toList = a := by
  show a.toArray.toList = a
  simp
def rLt4 (K : PySem.W.Frag) : R2 := fun x y H Q => rI0 (fun i j => .bl (decide (i < j))) x y H Q ∨ (∃ i j, x = .str i ∧ y = .str j ∧ Q (.bl (decide (i.cps.toList < j.cps.toList))) H) ∨ rLtT K x y H Q
theorem op_lt4 {X : Cx} (hu : X.A.units < cLine) : OpR X (compareOp .Lt) (rLt4 X.K) := op_lt.or (op_lt_str.or (op_ltT hu))
theorem o_lt : Op2 K (rLt4 K) oLt := by
  intro T N H d c x y Q rd rc h
  cases d <;> cases c <;> first | exact False.elim h | skip
  · rename_i i j
    obtain rfl : x = .int i := rd
    obtain rfl : y = .int j := rc
    exact .inl ⟨_, _, rfl, rfl, ok_bl h⟩
  · rename_i i j
    obtain rfl : x = .str ⟨i.toArray⟩ := rd
    obtain rfl : y = .str ⟨j.toArray⟩ := rc
    refine .inr (.inl ⟨_, _, rfl, rfl, ?_⟩)
    rw [toList_str, toList_str]
    exact ok_bl h
  · rename_i ds es
    obtain ⟨a, xs, rfl, s1, r1⟩ := rd
    obtain ⟨b, ys, rfl, s2, r2⟩ := rc
    unfold oLt at h
    cases e1 : D.ints ds with
    | none => simp only [e1] at h; exact False.elim h
    | some ns =>
      cases e2 : D.ints es with
      | none => simp only [e1, e2] at h; exact False.elim h
      | some ms =>
        simp only [e1, e2] at h
        have q1 := ints_some e1
        have q2 := ints_some e2
        subst q1 q2
        rw [r1.ints] at s1
        rw [r2.ints] at s2
        exact .inr (.inr ⟨a, b, ns, ms, rfl, rfl, sqt s1, sqt s2, ok_bl h⟩)
def rGt4 : R2 := fun x y H Q => rI0 (fun i j => .bl (decide (j < i))) x y H Q ∨ (∃ i j, x = .str i ∧ y = .str j ∧ Q (.bl (decide (j.cps.toList < i.cps.toList))) H)
theorem op_gt4 {X : Cx} : OpR X (compareOp .Gt) rGt4 := op_gt.or op_gt_str
theorem o_gt : Op2 K rGt4 oGt := by
  intro T N H d c x y Q rd rc h
  cases d <;> cases c <;> first | exact False.elim h | skip
  · rename_i i j
    obtain rfl : x = .int i := rd
    obtain rfl : y = .int j := rc
    exact .inl ⟨_, _, rfl, rfl, ok_bl h⟩
  · rename_i i j
    obtain rfl : x = .str ⟨i.toArray⟩ := rd
    obtain rfl : y = .str ⟨j.toArray⟩ := rc
    refine .inr ⟨_, _, rfl, rfl, ?_⟩
    rw [toList_str, toList_str]
    exact ok_bl h
theorem o_le : Op2 K (rI0 fun i j => .bl (decide (i ≤ j))) oLe := by
  intro T N H d c x y Q rd rc h
  cases d <;> cases c <;> first | exact False.elim h | skip
  rename_i i j
  obtain rfl : x = .int i := rd
  obtain rfl : y = .int j := rc
  exact ⟨_, _, rfl, rfl, ok_bl h⟩
theorem o_ge : Op2 K (rI0 fun i j => .bl (decide (j ≤ i))) oGe := by
  intro T N H d c x y Q rd rc h
  cases d <;> cases c <;> first | exact False.elim h | skip
  rename_i i j
  obtain rfl : x = .int i := rd
  obtain rfl : y = .int j := rc
  exact ⟨_, _, rfl, rfl, ok_bl h⟩
theorem o_eq : Op2 K (rEqD K) oEq := by
  intro T N H d c x y Q rd rc h
  obtain ⟨hl, h⟩ := ok_if h
  rw [Bool.and_eq_true] at hl
  exact ⟨_, _, Rep.dp _ d x hl.1 rd, Rep.dp _ c y hl.2 rc, shp_shaped (by decide) hl.1, shp_shaped (by decide) hl.2, ok_bl h⟩
theorem o_ne : Op2 K (rNeD K) oNe := by
  intro T N H d c x y Q rd rc h
  obtain ⟨hl, h⟩ := ok_if h
  rw [Bool.and_eq_true] at hl
  exact ⟨_, _, Rep.dp _ d x hl.1 rd, Rep.dp _ c y hl.2 rc, shp_shaped (by decide) hl.1, shp_shaped (by decide) hl.2, ok_bl h⟩
theorem isNon_of {T : Tkn} {N : Addr → Prop} {H : Hp} {d : D} {x : V} (h : Rep K N H d x) : decide (x = .non) = isNon d := by
  cases d with
  | non => obtain rfl : x = .non := h; rfl
  | bl b => obtain rfl : x = .bl b := h; rfl
  | int b => obtain rfl : x = .int b := h; rfl
  | str b => obtain rfl : x = .str ⟨b.toArray⟩ := h; rfl
  | tup ds => obtain ⟨a, xs, rfl, _⟩ := h; rfl
  | lst ds => obtain ⟨a, xs, rfl, _⟩ := h; rfl
  | scr ns => obtain ⟨a, rfl, _⟩ := h; rfl
  | exc c fs => obtain ⟨a, C, rfl, _⟩ := h; rfl
  | jnk => obtain ⟨a, xs, rfl, _⟩ := h; rfl
  | opq _ => obtain ⟨a, rfl, _⟩ := (show ∃ a, x = V.ref a ∧ _ from h); rfl
/-- x in a list or a tuple, of data -/
def rInQ (K : PySem.W.Frag) (neg : Bool) : R2 := fun x y H Q => ∃ d ds, Dp K H x d ∧ (Dp K H y (.list ds) ∨ Dp K H y (.tuple ds)) ∧ SeqAt.shaped d = true ∧ PyData.canLayAll0 ds = true ∧ Q (.bl (if neg then !ds.any fun z => PyData.eqv z d else ds.any fun z => PyData.eqv z d)) H
theorem op_inQ {X : Cx} (hu : X.A.units + 65 < cLine) : OpR X (compareOp .In) (rInQ X.K false) := by
  intro pins s σ H x y v u Q I rx ry h
  obtain ⟨d, ds, hd, he, sd, se, q⟩ := h
  obtain ⟨as, r1⟩ := Dp.reads I d x v hd rx
  rcases he with he | he
  · obtain ⟨bs, r2⟩ := Dp.reads I (.list ds) y u he ry
    exact SeqAt.in_list_reads r2 r1 se (SeqAt.canLay_of_shaped sd) (room_in_shaped sd hu) ⟨.bl _, H, I, rfl, q⟩
  · obtain ⟨bs, r2⟩ := Dp.reads I (.tuple ds) y u he ry
    exact SeqAt.in_tuple_reads r2 r1 se (SeqAt.canLay_of_shaped sd) (room_in_shaped sd hu) ⟨.bl _, H, I, rfl, q⟩
theorem op_notInQ {X : Cx} (hu : X.A.units + 65 < cLine) : OpR X (compareOp .NotIn) (rInQ X.K true) := by
  intro pins s σ H x y v u Q I rx ry h
  obtain ⟨d, ds, hd, he, sd, se, q⟩ := h
  obtain ⟨as, r1⟩ := Dp.reads I d x v hd rx
  rcases he with he | he
  · obtain ⟨bs, r2⟩ := Dp.reads I (.list ds) y u he ry
    exact SeqAt.notIn_list_reads r2 r1 se (SeqAt.canLay_of_shaped sd) (room_in_shaped sd hu) ⟨.bl _, H, I, rfl, q⟩
  · obtain ⟨bs, r2⟩ := Dp.reads I (.tuple ds) y u he ry
    exact SeqAt.notIn_tuple_reads r2 r1 se (SeqAt.canLay_of_shaped sd) (room_in_shaped sd hu) ⟨.bl _, H, I, rfl, q⟩
theorem any_pyL (p : PyData) : ∀ ds : List D, ((D.pyL ds).any fun z => PyData.eqv z p) = ds.any fun z => PyData.eqv z.py p
  | [] => by simp [D.pyL]
  | d :: r => by
    have := any_pyL p r
    simp only [D.pyL, List.any_cons, this]
def rIn4 (K : PySem.W.Frag) : R2 := fun x y H Q => (∃ (c : Nat) (z : Str), x = .str ⟨#[c]⟩ ∧ y = .str z ∧ Q (.bl (decide (c ∈ z.cps.toList))) H) ∨ rInQ K false x y H Q
def rNotIn4 (K : PySem.W.Frag) : R2 := fun x y H Q => (∃ (c : Nat) (z : Str), x = .str ⟨#[c]⟩ ∧ y = .str z ∧ Q (.bl (!decide (c ∈ z.cps.toList))) H) ∨ rInQ K true x y H Q
theorem op_in4 {X : Cx} (hu : X.A.units + 65 < cLine) : OpR X (compareOp .In) (rIn4 X.K) := op_in_sign.or (op_inQ hu)
theorem op_notIn4 {X : Cx} (hu : X.A.units + 65 < cLine) : OpR X (compareOp .NotIn) (rNotIn4 X.K) := op_notIn_sign.or (op_notInQ hu)
theorem can_of {n : Nat} {ds : List D} (h : D.shpL n ds = true) : PyData.canLayAll0 (D.pyL ds) = true := (shpL_can n ds h).1
theorem o_in : Op2 K (rIn4 K) oIn := by
  intro T N H d c x y Q rd rc h
  unfold oIn at h
  split at h
  · rename_i s b
    obtain rfl : x = .str ⟨#[s]⟩ := rd
    obtain rfl : y = .str ⟨b.toArray⟩ := rc
    refine .inl ⟨s, _, rfl, rfl, ?_⟩
    rw [toList_str]
    exact ok_bl h
  · obtain ⟨hl, h⟩ := ok_if h
    rw [Bool.and_eq_true] at hl
    obtain ⟨a, xs, rfl, s1, r1⟩ := rc
    refine .inr ⟨_, _, Rep.dp _ _ x hl.1 rd, .inl (.lst (.inl (.inl s1.2)) (RepL.dp _ _ xs hl.2 r1)), shp_shaped (by decide) hl.1, can_of hl.2, ?_⟩
    rw [any_pyL]
    exact ok_bl h
  · obtain ⟨hl, h⟩ := ok_if h
    rw [Bool.and_eq_true] at hl
    obtain ⟨a, xs, rfl, s1, r1⟩ := rc
    refine .inr ⟨_, _, Rep.dp _ _ x hl.1 rd, .inr (.tup (sqt s1) (RepL.dp _ _ xs hl.2 r1)), shp_shaped (by decide) hl.1, can_of hl.2, ?_⟩
    rw [any_pyL]
    exact ok_bl h
  · exact False.elim h
theorem o_notIn : Op2 K (rNotIn4 K) oNotIn := by
  intro T N H d c x y Q rd rc h
  unfold oNotIn at h
  split at h
  · rename_i s b
    obtain rfl : x = .str ⟨#[s]⟩ := rd
    obtain rfl : y = .str ⟨b.toArray⟩ := rc
    refine .inl ⟨s, _, rfl, rfl, ?_⟩
    rw [toList_str]
    exact ok_bl h
  · obtain ⟨hl, h⟩ := ok_if h
    rw [Bool.and_eq_true] at hl
    obtain ⟨a, xs, rfl, s1, r1⟩ := rc
    refine .inr ⟨_, _, Rep.dp _ _ x hl.1 rd, .inl (.lst (.inl (.inl s1.2)) (RepL.dp _ _ xs hl.2 r1)), shp_shaped (by decide) hl.1, can_of hl.2, ?_⟩
    rw [any_pyL]
    exact ok_bl h
  · obtain ⟨hl, h⟩ := ok_if h
    rw [Bool.and_eq_true] at hl
    obtain ⟨a, xs, rfl, s1, r1⟩ := rc
    refine .inr ⟨_, _, Rep.dp _ _ x hl.1 rd, .inr (.tup (sqt s1) (RepL.dp _ _ xs hl.2 r1)), shp_shaped (by decide) hl.1, can_of hl.2, ?_⟩
    rw [any_pyL]
    exact ok_bl h
  · exact False.elim h
/-! places -/
theorem RepL.atI {T : Tkn} {N : Addr → Prop} {H : Hp} {ds : List D} {xs : List V} (r : RepL K N H ds xs) {i : Int} {d : D} (h : atI ds i = some d) : ∃ x, atI xs i = some x ∧ Rep K N H d x := by
  unfold L2.atI at h ⊢
  rw [r.length]
  cases q : ixN ds.length i with
  | none => rw [q] at h; cases h
  | some j =>
    rw [q] at h
    exact r.get h
def rIxScr (K : PySem.W.Frag) : R2 := rIx K
theorem o_item : Op2 K (rIx K) oItem := by
  intro T N H d c x y Q rd rc h
  cases d <;> cases c <;> first | exact False.elim h | skip
  · rename_i s i
    obtain rfl : x = .str ⟨s.toArray⟩ := rd
    obtain rfl : y = .int i := rc
    obtain ⟨hl, h⟩ := ok_if h
    cases q : L2.atI s i with
    | none => simp only [q] at h; exact False.elim h
    | some ch =>
      simp only [q] at h
      refine .inr (.inr ⟨_, i, ch, rfl, rfl, by rw [str_len]; exact lim_line hl, by rw [toList_str]; exact q, ?_⟩)
      exact ok_str (i := [ch]) h
  · rename_i ds i
    obtain ⟨a, xs, rfl, s1, r1⟩ := rd
    obtain rfl : y = .int i := rc
    unfold oItem at h
    cases q : L2.atI ds i with
    | none => simp only [q] at h; exact False.elim h
    | some e =>
      simp only [q] at h
      obtain ⟨v, h1, h2⟩ := r1.atI q
      exact .inr (.inl ⟨a, xs, i, v, rfl, rfl, sqt s1, h1, ok_val h h2⟩)
  · rename_i ds i
    obtain ⟨a, xs, rfl, s1, r1⟩ := rd
    obtain rfl : y = .int i := rc
    unfold oItem at h
    cases q : L2.atI ds i with
    | none => simp only [q] at h; exact False.elim h
    | some e =>
      simp only [q] at h
      obtain ⟨v, h1, h2⟩ := r1.atI q
      exact .inl ⟨a, xs, i, v, rfl, rfl, .inl (.inl s1.2), h1, ok_val h h2⟩
  · rename_i ns i
    obtain ⟨a, rfl, s1⟩ := rd
    obtain rfl : y = .int i := rc
    unfold oItem at h
    cases q : L2.atI ns i with
    | none => simp only [q] at h; exact False.elim h
    | some e =>
      simp only [q] at h
      refine .inl ⟨a, _, i, .int e, rfl, rfl, s1.seq, ?_, ok_int h⟩
      unfold L2.atI at q ⊢
      rw [List.length_map]
      cases q2 : ixN ns.length i with
      | none => rw [q2] at q; cases q
      | some j =>
        rw [q2] at q
        show (ns.map V.int)[j]? = _
        rw [List.getElem?_map, show ns[j]? = some e from q]
        rfl
theorem RepL.cut {T : Tkn} {N : Addr → Prop} {H : Hp} {ds : List D} {xs : List V} (r : RepL K N H ds xs) (lo hi : Option Int) : RepL K N H (cutL ds lo hi) (cutV xs lo hi) := by
  unfold cutL L2.cutV
  rw [r.length]
  exact (r.drop _).take _
theorem cutL_map {α β : Type} (f : α → β) (xs : List α) (lo hi : Option Int) : cutL (xs.map f) lo hi = (cutL xs lo hi).map f := by
  unfold cutL
  rw [List.length_map, List.map_take, List.map_drop]
theorem cutL_whole {α : Type} (xs : List α) {lo hi : Option Int} (h1 : HT.sIx xs.length 0 lo = 0) (h2 : HT.sIx xs.length xs.length hi = xs.length) : cutL xs lo hi = xs := by
  unfold cutL
  rw [h1, h2]
  simp
/-- a slice, of a list, a tuple, a text -/
def rSl4 (K : PySem.W.Frag) : V → Option Int → Option Int → Hp → VK → Prop := fun x lo hi H Q => rSlL K x lo hi H Q ∨ rSlA K x lo hi H Q ∨ rSlS x lo hi H Q
theorem sl_4 {X : Cx} : SlR X (rSl4 X.K) := sl_list.or (sl_tupA.or sl_str)
theorem o_sl (lo hi : Option Int) : Op1 K (fun x H Q => rSl4 K x lo hi H Q) (oSl lo hi) := by
  intro T N H d x Q rd h
  cases d <;> first | exact False.elim h | skip
  · rename_i s
    obtain rfl : x = .str ⟨s.toArray⟩ := rd
    obtain ⟨hl, h⟩ := ok_if h
    refine .inr (.inr ⟨_, rfl, by rw [str_len]; exact lim_line hl, ?_⟩)
    have e : cutS ⟨s.toArray⟩ lo hi = ⟨(cutL s lo hi).toArray⟩ := by
      unfold L2.cutS cutL
      rw [toList_str, str_len]
    rw [e]
    exact ok_str h
  · rename_i ds
    obtain ⟨a, xs, rfl, s1, r1⟩ := rd
    refine .inr (.inl ⟨a, xs, rfl, sqt s1, fun hw => ?_, fun _ p hp => ok_tup h (r1.cut lo hi) hp⟩)
    rw [r1.length] at hw
    have h' : OkR K N H Q (.ok (.val (.tup (cutL ds lo hi)))) := h
    rw [cutL_whole ds hw.1 hw.2] at h'
    exact ok_val h' ⟨a, xs, rfl, s1, r1⟩
  · rename_i ds
    obtain ⟨a, xs, rfl, s1, r1⟩ := rd
    exact .inl ⟨a, xs, rfl, .inl (.inl s1.2), fun p hp => ok_own h (r1.cut lo hi) hp⟩
  · rename_i ns
    obtain ⟨a, rfl, s1⟩ := rd
    refine .inl ⟨a, _, rfl, s1.seq, fun p hp => ?_⟩
    have e : cutV (ns.map V.int) lo hi = (cutL ns lo hi).map V.int := cutL_map V.int ns lo hi
    rw [e]
    exact ok_own h (RepL.of_ints _) hp
end
end Tg

/-! Tg, part 7: expressions and tests. -/
namespace Tg
open PySem PySem.Spec PyProof.Rows L2

/-- results that bear no list -/
def Fl1 (f : D → R S) : Prop := ∀ d s, f d = .ok s → ∃ c, s = .val c ∧ c.flat = true
def Fl2 (f : D → D → R S) : Prop := ∀ d e s, f d e = .ok s → ∃ c, s = .val c ∧ c.flat = true
section
theorem nx_add : NoEx2 oAdd := by
  intro d c e h
  unfold oAdd at h
  split at h <;> (try split at h) <;> cases h
theorem nx_sub : NoEx2 oSub := by
  intro d c e h
  unfold oSub at h
  split at h <;> (try split at h) <;> cases h
theorem fl_sub : Fl2 oSub := by
  intro d c s h
  unfold oSub at h
  split at h <;> (try split at h) <;> cases h <;> exact ⟨_, rfl, rfl⟩
theorem nx_mul : NoEx2 oMul := by
  intro d c e h
  unfold oMul at h
  split at h <;> (try split at h) <;> cases h
theorem nx_fdiv : NoEx2 oFdiv := by
  intro d c e h
  unfold oFdiv at h
  split at h <;> (try split at h) <;> cases h
theorem fl_fdiv : Fl2 oFdiv := by
  intro d c s h
  unfold oFdiv at h
  split at h <;> (try split at h) <;> cases h <;> exact ⟨_, rfl, rfl⟩
theorem nx_mod : NoEx2 oMod := by
  intro d c e h
  unfold oMod at h
  split at h <;> (try split at h) <;> cases h
theorem fl_mod : Fl2 oMod := by
  intro d c s h
  unfold oMod at h
  split at h <;> (try split at h) <;> cases h <;> exact ⟨_, rfl, rfl⟩
theorem nx_pow : NoEx2 oPow := by
  intro d c e h
  unfold oPow at h
  split at h <;> (try split at h) <;> cases h
theorem fl_pow : Fl2 oPow := by
  intro d c s h
  unfold oPow at h
  split at h <;> (try split at h) <;> cases h <;> exact ⟨_, rfl, rfl⟩
theorem nx_shl : NoEx2 oShl := by
  intro d c e h
  unfold oShl at h
  split at h <;> (try split at h) <;> cases h
theorem fl_shl : Fl2 oShl := by
  intro d c s h
  unfold oShl at h
  split at h <;> (try split at h) <;> cases h <;> exact ⟨_, rfl, rfl⟩
theorem nx_shr : NoEx2 oShr := by
  intro d c e h
  unfold oShr at h
  split at h <;> (try split at h) <;> cases h
theorem fl_shr : Fl2 oShr := by
  intro d c s h
  unfold oShr at h
  split at h <;> (try split at h) <;> cases h <;> exact ⟨_, rfl, rfl⟩
theorem nx_and : NoEx2 oAnd := by
  intro d c e h
  unfold oAnd at h
  split at h <;> cases h
theorem fl_and : Fl2 oAnd := by
  intro d c s h
  unfold oAnd at h
  split at h <;> cases h <;> exact ⟨_, rfl, rfl⟩
theorem nx_or : NoEx2 oOr := by
  intro d c e h
  unfold oOr at h
  split at h <;> cases h
theorem fl_or : Fl2 oOr := by
  intro d c s h
  unfold oOr at h
  split at h <;> cases h <;> exact ⟨_, rfl, rfl⟩
theorem nx_neg : NoEx1 oNeg := by
  intro d e h
  unfold oNeg at h
  split at h <;> cases h
theorem fl_neg : Fl1 oNeg := by
  intro d s h
  unfold oNeg at h
  split at h <;> cases h <;> exact ⟨_, rfl, rfl⟩
theorem nx_lt : NoEx2 oLt := by
  intro d c e h
  unfold oLt at h
  split at h <;> (try split at h) <;> cases h
theorem fl_lt : Fl2 oLt := by
  intro d c s h
  unfold oLt at h
  split at h <;> (try split at h) <;> cases h <;> exact ⟨_, rfl, rfl⟩
theorem nx_gt : NoEx2 oGt := by
  intro d c e h
  unfold oGt at h
  split at h <;> (try split at h) <;> cases h
theorem fl_gt : Fl2 oGt := by
  intro d c s h
  unfold oGt at h
  split at h <;> (try split at h) <;> cases h <;> exact ⟨_, rfl, rfl⟩
theorem nx_le : NoEx2 oLe := by
  intro d c e h
  unfold oLe at h
  split at h <;> cases h
theorem fl_le : Fl2 oLe := by
  intro d c s h
  unfold oLe at h
  split at h <;> cases h <;> exact ⟨_, rfl, rfl⟩
theorem nx_ge : NoEx2 oGe := by
  intro d c e h
  unfold oGe at h
  split at h <;> cases h
theorem fl_ge : Fl2 oGe := by
  intro d c s h
  unfold oGe at h
  split at h <;> cases h <;> exact ⟨_, rfl, rfl⟩
theorem nx_eq : NoEx2 oEq := by
  intro d c e h
  unfold oEq at h
  split at h <;> cases h
theorem fl_eq : Fl2 oEq := by
  intro d c s h
  unfold oEq at h
  split at h <;> cases h <;> exact ⟨_, rfl, rfl⟩
theorem nx_ne : NoEx2 oNe := by
  intro d c e h
  unfold oNe at h
  split at h <;> cases h
theorem fl_ne : Fl2 oNe := by
  intro d c s h
  unfold oNe at h
  split at h <;> cases h <;> exact ⟨_, rfl, rfl⟩
theorem nx_in : NoEx2 oIn := by
  intro d c e h
  unfold oIn at h
  split at h <;> (try split at h) <;> cases h
theorem fl_in : Fl2 oIn := by
  intro d c s h
  unfold oIn at h
  split at h <;> (try split at h) <;> cases h <;> exact ⟨_, rfl, rfl⟩
theorem nx_notIn : NoEx2 oNotIn := by
  intro d c e h
  unfold oNotIn at h
  split at h <;> (try split at h) <;> cases h
theorem fl_notIn : Fl2 oNotIn := by
  intro d c s h
  unfold oNotIn at h
  split at h <;> (try split at h) <;> cases h <;> exact ⟨_, rfl, rfl⟩
theorem nx_item : NoEx2 oItem := by
  intro d c e h
  unfold oItem at h
  split at h <;> (try split at h) <;> (try split at h) <;> cases h
theorem nx_sl (lo hi : Option Int) : NoEx1 (oSl lo hi) := by
  intro d e h
  unfold oSl at h
  split at h <;> (try split at h) <;> cases h
theorem nx_rev : NoEx1 oRev := by
  intro d e h
  unfold oRev at h
  split at h <;> cases h
end

section
variable {X : Cx} {W : Wi} {a b : Expr} {m n : Ex} {l k : List Nat} {pos : Pos}
theorem fl_e2 {f : D → D → R S} (g : Fl2 f) : ∀ e s, eOp2 f m n e = .ok s → ∃ d, s = .val d ∧ d.flat = true := fun e s h => by
  unfold eOp2 at h
  cases h1 : m e with
  | ok x =>
    rw [h1, R.bind_ok] at h
    cases h2 : n e with
    | ok y => rw [h2, R.bind_ok] at h; exact g _ _ _ h
    | ex d => rw [h2] at h; cases h
    | bad => rw [h2] at h; cases h
  | ex d => rw [h1] at h; cases h
  | bad => rw [h1] at h; cases h
theorem fl_e1 {f : D → R S} (g : Fl1 f) : ∀ e s, eOp1 f m e = .ok s → ∃ d, s = .val d ∧ d.flat = true := fun e s h => by
  unfold eOp1 at h
  cases h1 : m e with
  | ok x => rw [h1, R.bind_ok] at h; exact g _ _ h
  | ex d => rw [h1] at h; cases h
  | bad => rw [h1] at h; cases h

theorem x_bin {op : Operator} {r : R2} {f : D → D → R S} (ho : OpR X (binaryOp op) r) (o : Op2 X.K r f) (nx : NoEx2 f) (ha : SE X W a m l) (hb : SE X W b n k) : SE X W (.BinOp a op b pos) (eOp2 f m n) (l ++ k) :=
  PE.imp (pe_op ho ha hb) (sim2 o nx)
theorem x_binF {op : Operator} {r : R2} {f : D → D → R S} (ho : OpR X (binaryOp op) r) (o : Op2 X.K r f) (nx : NoEx2 f) (g : Fl2 f) (ha : SE X W a m l) (hb : SE X W b n k) : SE X W (.BinOp a op b pos) (eOp2 f m n) [] :=
  x_flat (x_bin ho o nx ha hb) (fl_e2 g)
theorem x_add (ha : SE X W a m l) (hb : SE X W b n k) : SE X W (.BinOp a .Add b pos) (eOp2 oAdd m n) (l ++ k) := x_bin op_add4 o_add nx_add ha hb
theorem x_sub (ha : SE X W a m l) (hb : SE X W b n k) : SE X W (.BinOp a .Sub b pos) (eOp2 oSub m n) [] := x_binF op_sub o_sub nx_sub fl_sub ha hb
theorem x_mul (ha : SE X W a m l) (hb : SE X W b n k) : SE X W (.BinOp a .Mult b pos) (eOp2 oMul m n) (l ++ k) := x_bin op_mul4 o_mul nx_mul ha hb
theorem x_fdiv (ha : SE X W a m l) (hb : SE X W b n k) : SE X W (.BinOp a .FloorDiv b pos) (eOp2 oFdiv m n) [] := x_binF op_fdivW o_fdiv nx_fdiv fl_fdiv ha hb
theorem x_mod (ha : SE X W a m l) (hb : SE X W b n k) : SE X W (.BinOp a .Mod b pos) (eOp2 oMod m n) [] := x_binF op_mod o_mod nx_mod fl_mod ha hb
theorem x_pow (ha : SE X W a m l) (hb : SE X W b n k) : SE X W (.BinOp a .Pow b pos) (eOp2 oPow m n) [] := x_binF op_pow o_pow nx_pow fl_pow ha hb
theorem x_shl (ha : SE X W a m l) (hb : SE X W b n k) : SE X W (.BinOp a .LShift b pos) (eOp2 oShl m n) [] := x_binF op_shl o_shl nx_shl fl_shl ha hb
theorem x_shr (ha : SE X W a m l) (hb : SE X W b n k) : SE X W (.BinOp a .RShift b pos) (eOp2 oShr m n) [] := x_binF op_shr o_shr nx_shr fl_shr ha hb
theorem x_band (ha : SE X W a m l) (hb : SE X W b n k) : SE X W (.BinOp a .BitAnd b pos) (eOp2 oAnd m n) [] := x_binF op_and o_and nx_and fl_and ha hb
theorem x_bor (ha : SE X W a m l) (hb : SE X W b n k) : SE X W (.BinOp a .BitOr b pos) (eOp2 oOr m n) [] := x_binF op_or o_or nx_or fl_or ha hb
theorem x_neg (ha : SE X W a m l) : SE X W (.UnaryOp .USub a pos) (eOp1 oNeg m) [] := x_flat (PE.imp (pe_un un_neg ha) (sim1 o_neg nx_neg)) (fl_e1 fl_neg)
theorem x_item (ha : SE X W a m l) (hb : SE X W b n k) (hs : PlainIx b := by exact fun _ _ => rfl) : SE X W (.Subscript a b pos) (eOp2 oItem m n) (l ++ k) := PE.imp (pe_ix ix_seq ha hb hs) (sim2 o_item nx_item)

/-! comparisons: as values, as tests -/
theorem tVal_tE {x : Ex} {l : List Nat} {σ : L2.St} {H : Hp} {Q : Bool → Hp → Prop} (q : tT X.K W (tVal x) σ H Q) : tE X.K W x l σ H fun v H' => ∃ c, v = .bl c ∧ Q c H' := by
  obtain ⟨T, B, Z, rt, e, r, q⟩ := q
  refine ⟨T, B, Z, rt, e, r, ?_⟩
  unfold tVal at q
  cases h : x e with
  | ok s =>
    rw [h, R.bind_ok] at q
    intro v H' sm rs
    cases s with
    | val d =>
      cases d with
      | bl c =>
        obtain rfl : v = .bl c := rs
        exact ⟨c, rfl, q H' sm⟩
      | non => exact q.elim
      | int _ => exact q.elim
      | str _ => exact q.elim
      | tup _ => exact q.elim
      | lst _ => exact q.elim
      | scr _ => exact q.elim
      | exc _ _ => exact q.elim
      | jnk => exact q.elim
      | opq _ => exact q.elim
    | own ds => exact q.elim
    | dct _ _ => exact q.elim
    | sto _ _ => exact q.elim
    | both d os =>
      cases d with
      | bl c =>
        obtain rfl : v = .bl c := rs.1
        exact ⟨c, rfl, q H' sm⟩
      | _ => exact q.elim
  | ex d => rw [h] at q; exact q
  | bad => rw [h] at q; exact q
/-- an expression whose value is a truth, as a test -/
theorem t_val (ha : SE X W a m l) (he : ∀ whole, isTrue a X.env whole = (do let v ← whole; standAt a.pos; holding [v] (truthy v)) := by intro _; rfl) : ST X W a (tVal m) :=
  PT.imp (pt_val ha he) fun σ H Q q => tVal_tE q
theorem x_cmp {op : CmpOp} {r : R2} {f : D → D → R S} (ho : OpR X (compareOp op) r) (o : Op2 X.K r f) (nx : NoEx2 f) (g : Fl2 f) (ha : SE X W a m l) (hb : SE X W b n k) (hm : behindInMarks op b = false) :
    SE X W (.Compare a [op] [b] pos) (eOp2 f m n) [] := x_flat (PE.imp (pe_cmpR ho ha hb hm) (sim2 o nx)) (fl_e2 g)
theorem t_cmp {op : CmpOp} {r : R2} {f : D → D → R S} (ho : OpR X (compareOp op) r) (o : Op2 X.K r f) (nx : NoEx2 f) (ha : SE X W a m l) (hb : SE X W b n k) (hm : behindInMarks op b = false) :
    ST X W (.Compare a [op] [b] pos) (tVal (eOp2 f m n)) := PT.imp (pt_cmpR ho ha hb hm) fun σ H Q q => sim2 o nx σ H _ (tVal_tE q)
theorem x_lt (hu : X.A.units + 65 < cLine) (ha : SE X W a m l) (hb : SE X W b n k) : SE X W (.Compare a [.Lt] [b] pos) (eOp2 oLt m n) [] := x_cmp (op_lt4 (by omega)) o_lt nx_lt fl_lt ha hb (nomark b)
theorem t_lt (hu : X.A.units + 65 < cLine) (ha : SE X W a m l) (hb : SE X W b n k) : ST X W (.Compare a [.Lt] [b] pos) (tVal (eOp2 oLt m n)) := t_cmp (op_lt4 (by omega)) o_lt nx_lt ha hb (nomark b)
theorem x_gt (ha : SE X W a m l) (hb : SE X W b n k) : SE X W (.Compare a [.Gt] [b] pos) (eOp2 oGt m n) [] := x_cmp op_gt4 o_gt nx_gt fl_gt ha hb (nomark b)
theorem t_gt (ha : SE X W a m l) (hb : SE X W b n k) : ST X W (.Compare a [.Gt] [b] pos) (tVal (eOp2 oGt m n)) := t_cmp op_gt4 o_gt nx_gt ha hb (nomark b)
theorem x_le (ha : SE X W a m l) (hb : SE X W b n k) : SE X W (.Compare a [.LtE] [b] pos) (eOp2 oLe m n) [] := x_cmp op_le o_le nx_le fl_le ha hb (nomark b)
theorem t_le (ha : SE X W a m l) (hb : SE X W b n k) : ST X W (.Compare a [.LtE] [b] pos) (tVal (eOp2 oLe m n)) := t_cmp op_le o_le nx_le ha hb (nomark b)
theorem x_ge (ha : SE X W a m l) (hb : SE X W b n k) : SE X W (.Compare a [.GtE] [b] pos) (eOp2 oGe m n) [] := x_cmp op_ge o_ge nx_ge fl_ge ha hb (nomark b)
theorem t_ge (ha : SE X W a m l) (hb : SE X W b n k) : ST X W (.Compare a [.GtE] [b] pos) (tVal (eOp2 oGe m n)) := t_cmp op_ge o_ge nx_ge ha hb (nomark b)
theorem x_eq (hu : X.A.units + 65 < cLine) (ha : SE X W a m l) (hb : SE X W b n k) : SE X W (.Compare a [.Eq] [b] pos) (eOp2 oEq m n) [] := x_cmp (op_eqD (by omega)) o_eq nx_eq fl_eq ha hb (nomark b)
theorem t_eq (hu : X.A.units + 65 < cLine) (ha : SE X W a m l) (hb : SE X W b n k) : ST X W (.Compare a [.Eq] [b] pos) (tVal (eOp2 oEq m n)) := t_cmp (op_eqD (by omega)) o_eq nx_eq ha hb (nomark b)
theorem x_ne (hu : X.A.units + 65 < cLine) (ha : SE X W a m l) (hb : SE X W b n k) : SE X W (.Compare a [.NotEq] [b] pos) (eOp2 oNe m n) [] := x_cmp (op_neD (by omega)) o_ne nx_ne fl_ne ha hb (nomark b)
theorem t_ne (hu : X.A.units + 65 < cLine) (ha : SE X W a m l) (hb : SE X W b n k) : ST X W (.Compare a [.NotEq] [b] pos) (tVal (eOp2 oNe m n)) := t_cmp (op_neD (by omega)) o_ne nx_ne ha hb (nomark b)
theorem x_in (hu : X.A.units + 65 < cLine) (ha : SE X W a m l) (hb : SE X W b n k) (hm : behindInMarks .In b = false := by rfl) : SE X W (.Compare a [.In] [b] pos) (eOp2 oIn m n) [] := x_cmp (op_in4 hu) o_in nx_in fl_in ha hb hm
theorem t_in (hu : X.A.units + 65 < cLine) (ha : SE X W a m l) (hb : SE X W b n k) (hm : behindInMarks .In b = false := by rfl) : ST X W (.Compare a [.In] [b] pos) (tVal (eOp2 oIn m n)) := t_cmp (op_in4 hu) o_in nx_in ha hb hm
theorem x_notIn (hu : X.A.units + 65 < cLine) (ha : SE X W a m l) (hb : SE X W b n k) (hm : behindInMarks .NotIn b = false := by rfl) : SE X W (.Compare a [.NotIn] [b] pos) (eOp2 oNotIn m n) [] := x_cmp (op_notIn4 hu) o_notIn nx_notIn fl_notIn ha hb hm
theorem t_notIn (hu : X.A.units + 65 < cLine) (ha : SE X W a m l) (hb : SE X W b n k) (hm : behindInMarks .NotIn b = false := by rfl) : ST X W (.Compare a [.NotIn] [b] pos) (tVal (eOp2 oNotIn m n)) := t_cmp (op_notIn4 hu) o_notIn nx_notIn ha hb hm
/-- is None -/
theorem isN_sim {x : Ex} {l : List Nat} (f : Bool → Bool) (σ : L2.St) (H : Hp) (Q : VK) (q : tE X.K W (eOp1 (fun d => .ok (.val (.bl (f (isNon d))))) x) l σ H Q) : tE X.K W x l σ H fun v H1 => Q (.bl (f (decide (v = .non)))) H1 := by
  obtain ⟨T, B, Z, rt, e, r, q⟩ := q
  refine ⟨T, B, Z, rt, e, r, ?_⟩
  unfold eOp1 at q
  cases h : x e with
  | ok s =>
    rw [h, R.bind_ok] at q
    intro v H' sm rs
    rw [isNon_of (rs.d (N := fun a => NZ W.g Z e rt l H a) fun a z => .inr (.inl z))]
    exact q _ H' sm rfl
  | ex d => rw [h] at q; exact q
  | bad => rw [h] at q; exact q
theorem fl_isN (f : Bool → Bool) : Fl1 (fun d => .ok (.val (.bl (f (isNon d))))) := fun d s h => by cases h; exact ⟨_, rfl, rfl⟩
theorem x_isN {j p} (ha : SE X W a m l) : SE X W (.Compare a [.Is] [.Constant .none j p] pos) (eOp1 oIsN m) [] := x_flat (PE.imp (pe_cmp (pc_isN ha)) fun σ H Q q => isN_sim (f := id) σ H Q q) (fl_e1 (fl_isN id))
theorem x_notN {j p} (ha : SE X W a m l) : SE X W (.Compare a [.IsNot] [.Constant .none j p] pos) (eOp1 oNotN m) [] := x_flat (PE.imp (pe_cmp (pc_notN ha)) fun σ H Q q => isN_sim (f := not) σ H Q q) (fl_e1 (fl_isN not))
theorem t_isN {j p} (ha : SE X W a m l) : ST X W (.Compare a [.Is] [.Constant .none j p] pos) (tVal (eOp1 oIsN m)) := PT.imp (pt_cmp (pc_isN ha)) fun σ H Q q => isN_sim (f := id) σ H _ (tVal_tE q)
theorem t_notN {j p} (ha : SE X W a m l) : ST X W (.Compare a [.IsNot] [.Constant .none j p] pos) (tVal (eOp1 oNotN m)) := PT.imp (pt_cmp (pc_notN ha)) fun σ H Q q => isN_sim (f := not) σ H _ (tVal_tE q)

/-! and, or, not: as tests -/
abbrev SW (X : Cx) (W : Wi) (x : Expr) (t : Tx) : Prop := PW X x (tT X.K W t)
theorem PW.imp {x : Expr} {t t' : TT} (h : PW X x t) (f : ∀ σ H Q, t' σ H Q → t σ H Q) : PW X x t' := ⟨fun w pins s σ H Q I q => h.run w pins s σ H Q I (f σ H Q q)⟩
variable {t u : Tx} {rest : List Expr}
theorem w_and1 (ha : ST X W a t) : SW X W (.BoolOp .And [a] pos) t := pw_and1 ha
theorem w_or1 (ha : ST X W a t) : SW X W (.BoolOp .Or [a] pos) t := pw_or1 ha
theorem w_and (ha : ST X W a t) (hb : SW X W (.BoolOp .And (b :: rest) pos) u) : SW X W (.BoolOp .And (a :: b :: rest) pos) (tAnd t u) := by
  refine PW.imp (pw_and ha hb) fun σ H Q ⟨T, B, Z, rt, e, r, q⟩ => ?_
  unfold tAnd at q
  refine tT_go r (fun d hd => by rw [hd] at q; exact q) (fun hd => by rw [hd] at q; exact q) fun c H1 hs sm r1 => ?_
  rw [hs, R.bind_ok] at q
  cases c with
  | true =>
    rw [if_pos rfl] at q ⊢
    refine tT_go r1 (fun d hd c o H' sm' => by rw [hd] at q; exact (fun z9 => q c o H' (sm.trans sm') (z9.mo sm))) (fun hd => by rw [hd] at q; exact q) fun c2 H2 hs2 sm2 r2 => ?_
    rw [hs2] at q
    exact q H2 (sm.trans sm2)
  | false =>
    rw [if_neg Bool.false_ne_true] at q ⊢
    exact q H1 sm
theorem w_or (ha : ST X W a t) (hb : SW X W (.BoolOp .Or (b :: rest) pos) u) : SW X W (.BoolOp .Or (a :: b :: rest) pos) (tOr t u) := by
  refine PW.imp (pw_or ha hb) fun σ H Q ⟨T, B, Z, rt, e, r, q⟩ => ?_
  unfold tOr at q
  refine tT_go r (fun d hd => by rw [hd] at q; exact q) (fun hd => by rw [hd] at q; exact q) fun c H1 hs sm r1 => ?_
  rw [hs, R.bind_ok] at q
  cases c with
  | true =>
    rw [if_pos rfl] at q ⊢
    exact q H1 sm
  | false =>
    rw [if_neg Bool.false_ne_true] at q ⊢
    refine tT_go r1 (fun d hd c o H' sm' => by rw [hd] at q; exact (fun z9 => q c o H' (sm.trans sm') (z9.mo sm))) (fun hd => by rw [hd] at q; exact q) fun c2 H2 hs2 sm2 r2 => ?_
    rw [hs2] at q
    exact q H2 (sm.trans sm2)
theorem t_w {x : Expr} (h : SW X W x t) : ST X W x t := h.pt
theorem t_not (ha : ST X W a t) : ST X W (.UnaryOp .Not a pos) (tNot t) := by
  refine PT.imp (pt_not ha) fun σ H Q ⟨T, B, Z, rt, e, r, q⟩ => ?_
  unfold tNot at q
  refine tT_go r (fun d hd => by rw [hd] at q; exact q) (fun hd => by rw [hd] at q; exact q) fun c H1 hs sm r1 => ?_
  rw [hs, R.bind_ok] at q
  exact q H1 sm
/-! .. as values -/
theorem bl_of {T : Tkn} {N : Addr → Prop} {H H' : Hp} {s : S} {x : V} {b : Bool} (rs : RepS X.K N H H' s x) (h : s.d = .bl b) : x = .bl b := by
  cases s with
  | val d =>
    have h' : d = .bl b := h
    subst h'
    exact rs
  | own ds => cases h
  | dct _ _ => cases h
  | sto _ _ => cases h
  | both d os =>
    have h' : d = .bl b := h
    subst h'
    exact rs.1
theorem x_one {op} (ha : SE X W a m l) : SE X W (.BoolOp op [a] pos) m l := pe_one ha
theorem x_and (ha : SE X W a m l) (hb : SE X W (.BoolOp .And (b :: rest) pos) n k) : SE X W (.BoolOp .And (a :: b :: rest) pos) (eAnd m n) k := by
  refine PE.imp (pe_and ha hb) fun σ H Q ⟨T, B, Z, rt, e, r, q⟩ => ?_
  unfold eAnd at q
  refine tE_go r (fun d hd => by rw [hd] at q; exact q) (fun hd => by rw [hd] at q; exact q) fun s x H1 hs sm r1 rs => ?_
  rw [hs, R.bind_ok] at q
  cases hd : s.d with
  | bl c =>
    have ex := bl_of rs hd
    subst ex
    refine ⟨c, rfl, ?_⟩
    simp only [hd] at q
    cases c with
    | true =>
      rw [if_pos rfl]
      refine tE_go r1 (fun d hd c o H' sm' => by rw [hd] at q; exact (fun z9 => q c o H' (sm.trans sm') (z9.mo sm))) (fun hd => by rw [hd] at q; exact q) fun s2 x2 H2 hs2 sm2 r2 rs2 => ?_
      rw [hs2] at q
      exact q x2 H2 (sm.trans sm2) ((rs2.back sm).mono fun a z => z.back sm)
    | false =>
      rw [if_neg Bool.false_ne_true]
      exact q _ H1 sm rfl
  | non => simp only [hd] at q
  | int _ => simp only [hd] at q
  | str _ => simp only [hd] at q
  | tup _ => simp only [hd] at q
  | lst _ => simp only [hd] at q
  | scr _ => simp only [hd] at q
  | exc _ _ => simp only [hd] at q
  | jnk => simp only [hd] at q
  | opq _ => simp only [hd] at q
theorem x_or (ha : SE X W a m l) (hb : SE X W (.BoolOp .Or (b :: rest) pos) n k) : SE X W (.BoolOp .Or (a :: b :: rest) pos) (eOr m n) k := by
  refine PE.imp (pe_or ha hb) fun σ H Q ⟨T, B, Z, rt, e, r, q⟩ => ?_
  unfold eOr at q
  refine tE_go r (fun d hd => by rw [hd] at q; exact q) (fun hd => by rw [hd] at q; exact q) fun s x H1 hs sm r1 rs => ?_
  rw [hs, R.bind_ok] at q
  cases hd : s.d with
  | bl c =>
    have ex := bl_of rs hd
    subst ex
    refine ⟨c, rfl, ?_⟩
    simp only [hd] at q
    cases c with
    | false =>
      rw [if_neg Bool.false_ne_true]
      refine tE_go r1 (fun d hd c o H' sm' => by rw [hd] at q; exact (fun z9 => q c o H' (sm.trans sm') (z9.mo sm))) (fun hd => by rw [hd] at q; exact q) fun s2 x2 H2 hs2 sm2 r2 rs2 => ?_
      rw [hs2] at q
      exact q x2 H2 (sm.trans sm2) ((rs2.back sm).mono fun a z => z.back sm)
    | true =>
      rw [if_pos rfl]
      exact q _ H1 sm rfl
  | non => simp only [hd] at q
  | int _ => simp only [hd] at q
  | str _ => simp only [hd] at q
  | tup _ => simp only [hd] at q
  | lst _ => simp only [hd] at q
  | scr _ => simp only [hd] at q
  | exc _ _ => simp only [hd] at q
  | jnk => simp only [hd] at q
  | opq _ => simp only [hd] at q
theorem x_not (ha : SE X W a m l) : SE X W (.UnaryOp .Not a pos) (eOp1 oNot m) [] := by
  refine x_flat (l := []) (PE.imp (pe_not ha) fun σ H Q ⟨T, B, Z, rt, e, r, q⟩ => ?_) (fl_e1 fun d s h => by
    unfold oNot at h
    split at h <;> cases h <;> exact ⟨_, rfl, rfl⟩)
  unfold eOp1 at q
  refine tE_go r (fun d hd => by rw [hd] at q; exact q) (fun hd => by rw [hd] at q; exact q) fun s x H1 hs sm r1 rs => ?_
  rw [hs, R.bind_ok] at q
  cases hd : s.d with
  | bl c =>
    have ex := bl_of rs hd
    subst ex
    rw [hd] at q
    exact ⟨c, rfl, q _ H1 sm rfl⟩
  | non => rw [hd] at q; exact False.elim q
  | int _ => rw [hd] at q; exact False.elim q
  | str _ => rw [hd] at q; exact False.elim q
  | tup _ => rw [hd] at q; exact False.elim q
  | lst _ => rw [hd] at q; exact False.elim q
  | scr _ => rw [hd] at q; exact False.elim q
  | exc _ _ => rw [hd] at q; exact False.elim q
  | jnk => rw [hd] at q; exact False.elim q
  | opq _ => rw [hd] at q; exact False.elim q
end
end Tg

/-! Tg: min, max of a tuple of ints. -/
namespace PySem
section
variable {prog : Program} {w : World} {A : Around} {E : Value → Shared → Prop} {s : Shared} {l : Addr} {xs : Array (Int × Tok)}
theorem tg_iter_tup {Q : Value → Shared → Prop} (hl : s.heap.IsTuple l (intItems xs))
    (h : ∀ s₂ : Shared, s₂ = { s with heap := s.heap.push { cls := .type "tuple_iterator", data := .fields #[.ref l, .int 0 0] } } →
      (s₂.heap.IsTupleIter s.heap.objs.size l 0 ∧ s₂.heap.IsTuple l (intItems xs)) → (∀ b ∈ [s.heap.objs.size, l], b < s₂.heap.objs.size) → l ≠ s.heap.objs.size → Q (.ref s.heap.objs.size) s₂) :
    wpAny (model prog w) A (pyIter (.ref l)) Q E s := by
  have hlt : l < s.heap.objs.size := by obtain ⟨_, e, _⟩ := hl; exact Heap.lt_size e
  refine wpAny_pyIter_tuple hl (h _ rfl ⟨⟨_, Heap.get?_push_size _ rfl, rfl, rfl⟩, hl.push _⟩ (fun b hb => ?_) (Nat.ne_of_lt hlt))
  show b < (s.heap.push _).objs.size
  rw [Heap.size_push]
  rcases List.mem_cons.mp hb with rfl | hb
  · exact Nat.lt_succ_self _
  · rcases List.mem_cons.mp hb with rfl | hb
    · exact Nat.lt_succ_of_lt hlt
    · cases hb
theorem tg_old {h' : Heap} {o0 : Obj} (hk : ∀ b o, b ∉ [s.heap.objs.size] → (s.heap.push o0).get? b = some o → h'.get? b = some o) :
    ∀ b o, s.heap.get? b = some o → h'.get? b = some o := fun b o e => by
  refine hk b o (fun hm => ?_) (Heap.get?_push_of_some _ e)
  rcases List.mem_cons.mp hm with e1 | hm
  · exact absurd (e1 ▸ Heap.lt_size e) (Nat.lt_irrefl _)
  · cases hm
theorem tg_max_tup {Q : Value → Shared → Prop} (hh : A.handled = none) (hl : s.heap.IsTuple l (intItems xs)) (hne : 0 < xs.size)
    (h : ∀ v h' tk, (intItems xs)[argBest (fun i j => decide (numAt xs i > numAt xs j)) (xs.size - 1)]? = some v → (∀ b o, s.heap.get? b = some o → h'.get? b = some o) → Q v { s with heap := h', toks := tk }) :
    wpAny (model prog w) A (call (.builtin "max") [.ref l]) Q E s := by
  refine call_max_walk (tg_iter_tup hl fun s₂ e st hfp hlI => ?_)
  subst e
  refine ⟨_, _, _, _, _, _, _, rfl, Walks.tuple (A := A.in1) hh _ l hlI (intItems xs), st, hfp, by simpa [intItems] using hne, CmpOf.ints_gt (numAt xs) (fun _ _ => intItems_at), fun v h' tk hP hk => ?_⟩
  exact h v h' tk (by simpa [intItems] using hP) (tg_old hk)
theorem tg_min_tup {Q : Value → Shared → Prop} (hh : A.handled = none) (hl : s.heap.IsTuple l (intItems xs)) (hne : 0 < xs.size)
    (h : ∀ v h' tk, (intItems xs)[argBest (fun i j => decide (numAt xs i < numAt xs j)) (xs.size - 1)]? = some v → (∀ b o, s.heap.get? b = some o → h'.get? b = some o) → Q v { s with heap := h', toks := tk }) :
    wpAny (model prog w) A (call (.builtin "min") [.ref l]) Q E s := by
  refine call_min_walk (tg_iter_tup hl fun s₂ e st hfp hlI => ?_)
  subst e
  refine ⟨_, _, _, _, _, _, _, rfl, Walks.tuple (A := A.in1) hh _ l hlI (intItems xs), st, hfp, by simpa [intItems] using hne, CmpOf.ints_lt (numAt xs) (fun _ _ => intItems_at), fun v h' tk hP hk => ?_⟩
  exact h v h' tk (by simpa [intItems] using hP) (tg_old hk)
end
end PySem
namespace Tg
open PySem PySem.Spec PyProof.Rows L2
theorem tg_max_raw {prog : Program} {w : World} {A : Around} {E : Value → Shared → Prop} {s : Shared} {l : Addr} {its : List Value} {ns : List Int} {Q : Value → Shared → Prop} (hh : A.handled = none) (ht : s.heap.IsTuple l its.toArray) (ia : IntsAre its ns) (pos : 0 < ns.length)
    (fin : ∀ h' tk M t', (∀ b o, s.heap.get? b = some o → h'.get? b = some o) → M ∈ ns → (∀ a, a ∈ ns → a ≤ M) → Q (.int M t') { s with heap := h', toks := tk }) : wpAny (model prog w) A (call (.builtin "max") [.ref l]) Q E s := by
  obtain ⟨ys, ey⟩ := ia.allInts.items
  have en : numsOf (intItems ys).toList = ns := by rw [← ey]; exact ia.numsOf
  rw [nums_intItems] at en
  subst en
  rw [ey] at ht
  have szp : 0 < ys.size := by simpa using pos
  refine PySem.tg_max_tup hh ht szp fun v h' tk hv hk => ?_
  obtain ⟨t, rfl⟩ := intItems_at hv
  obtain ⟨g1, g2⟩ := argBest_gt (numAt ys) (ys.size - 1)
  refine fin h' tk _ t hk ?_ fun a ha => ?_
  · rw [numAt_eq]; exact PySem.getD_mem (by rw [List.length_map, Array.length_toList]; omega)
  · obtain ⟨j, hj, rfl⟩ := mem_getD ha
    rw [List.length_map, Array.length_toList] at hj
    rw [← numAt_eq]; exact g2 j (by omega)
theorem tg_min_raw {prog : Program} {w : World} {A : Around} {E : Value → Shared → Prop} {s : Shared} {l : Addr} {its : List Value} {ns : List Int} {Q : Value → Shared → Prop} (hh : A.handled = none) (ht : s.heap.IsTuple l its.toArray) (ia : IntsAre its ns) (pos : 0 < ns.length)
    (fin : ∀ h' tk M t', (∀ b o, s.heap.get? b = some o → h'.get? b = some o) → M ∈ ns → (∀ a, a ∈ ns → M ≤ a) → Q (.int M t') { s with heap := h', toks := tk }) : wpAny (model prog w) A (call (.builtin "min") [.ref l]) Q E s := by
  obtain ⟨ys, ey⟩ := ia.allInts.items
  have en : numsOf (intItems ys).toList = ns := by rw [← ey]; exact ia.numsOf
  rw [nums_intItems] at en
  subst en
  rw [ey] at ht
  have szp : 0 < ys.size := by simpa using pos
  refine PySem.tg_min_tup hh ht szp fun v h' tk hv hk => ?_
  obtain ⟨t, rfl⟩ := intItems_at hv
  obtain ⟨g1, g2⟩ := argBest_lt (numAt ys) (ys.size - 1)
  refine fin h' tk _ t hk ?_ fun a ha => ?_
  · rw [numAt_eq]; exact PySem.getD_mem (by rw [List.length_map, Array.length_toList]; omega)
  · obtain ⟨j, hj, rfl⟩ := mem_getD ha
    rw [List.length_map, Array.length_toList] at hj
    rw [← numAt_eq]; exact g2 j (by omega)
/-- max of a list or a tuple of ints -/
def rMaxB (K : PySem.W.Frag) : List V → Hp → VK → Prop := fun vs H Q => rMax K vs H Q ∨ ∃ (a : Addr) (ns : List Int), vs = [V.ref a] ∧ SqT K H a (ns.map V.int) ∧ 0 < ns.length ∧ ∀ m, m ∈ ns → (∀ y, y ∈ ns → y ≤ m) → Q (.int m) H
theorem cr_maxB {X : Cx} (hc : X.calm = true) : CallR X (.builtin "max") (rMaxB X.K) := by
  intro pins s σ H vs us Q I r h
  rcases h with h | ⟨a, ns, rfl, hs, hne, q⟩
  · exact cr_max hc pins s σ H vs us Q I r h
  · obtain ⟨its, rv, hl, _⟩ := I.tuple hs
    rw [Vals.ref1 r]
    exact tg_max_raw (I.ok.hd hc) hl rv.ints hne fun h' tk m t' hk h1 h2 => ⟨.int _, H, I.kept hk, ⟨_, rfl⟩, q m h1 h2⟩
/-- min of a list or a tuple of ints -/
def rMinB (K : PySem.W.Frag) : List V → Hp → VK → Prop := fun vs H Q => rMin K vs H Q ∨ ∃ (a : Addr) (ns : List Int), vs = [V.ref a] ∧ SqT K H a (ns.map V.int) ∧ 0 < ns.length ∧ ∀ m, m ∈ ns → (∀ y, y ∈ ns → m ≤ y) → Q (.int m) H
theorem cr_minB {X : Cx} (hc : X.calm = true) : CallR X (.builtin "min") (rMinB X.K) := by
  intro pins s σ H vs us Q I r h
  rcases h with h | ⟨a, ns, rfl, hs, hne, q⟩
  · exact cr_min hc pins s σ H vs us Q I r h
  · obtain ⟨its, rv, hl, _⟩ := I.tuple hs
    rw [Vals.ref1 r]
    exact tg_min_raw (I.ok.hd hc) hl rv.ints hne fun h' tk m t' hk h1 h2 => ⟨.int _, H, I.kept hk, ⟨_, rfl⟩, q m h1 h2⟩
end Tg

/-! Tg: sorted of a tuple of ints. -/
namespace Tg
open PySem PySem.Spec PyProof.Rows L2
section
variable {prog : Program} {w : World} {A : Around} {E : Value → Shared → Prop} {s : Shared}
theorem coll_tup {l : Addr} {vs : List Value} {Q : List Value → Shared → Prop} (hl : IsTup s.heap l vs.toArray) (hz : vs.length ≤ sizeLine)
    (h : Q vs { s with heap := (s.heap.push (seqObj "list" #[] 0)).update s.heap.objs.size (Obj.mapSeq (· ++ vs.toArray)) }) : wpAny (model prog w) A (collect (.ref l)) Q E s := by
  obtain ⟨o, e0, c0, n, d0⟩ := hl
  have e1 : (s.heap.push (seqObj "list" #[] 0)).get? l = some o := Heap.get?_push_of_some _ e0
  have e2 : (s.heap.push (seqObj "list" #[] 0)).get? s.heap.objs.size = some (seqObj "list" #[] 0) := Heap.get?_push_size _ rfl
  unfold collect
  refine wpAny_bind (wpAny_runValue (codeAny_builtin entry_proto_collect' (show wpAny _ _ (do again (.builtin "list.__iadd__" ⟨[← newList [], .ref l], []⟩)) _ _ s from ?_)))
  refine wpAny_bind (wpAny_newList (wpAny_pure ⟨Code.quiet_builtin _ (by decide +kernel), codeAny_builtin entry_list_iadd' (show wpAny _ _ (Builtin.List.listExtendWith (.ref s.heap.objs.size) (.ref l) (.ref s.heap.objs.size)) _ _ { s with heap := s.heap.push (seqObj "list" #[] 0) } from ?_)⟩))
  unfold Builtin.List.listExtendWith
  refine wpAny_bind (wpAny_typeOf (T := "tuple") ⟨o, e1, c0⟩ ?_)
  rw [if_pos (by rw [show (Value.type "tuple" == Value.type "tuple") = true by rfl]; simp)]
  refine wpAny_bind (listItems_at e1 d0 (wpAny_bind (listItems_at (xs := #[]) (n := 0) e2 rfl ?_)))
  rw [if_neg (by simp)]
  refine wpAny_bind (listUpdate_at (xs := #[]) (n := 0) e2 rfl (wpAny_pure ?_) (Nat.zero_le _) (by
    show (#[] ++ vs.toArray).size ≤ sizeLine + 1
    simp only [Array.size_append, List.size_toArray, List.length_nil]
    omega))
  refine wpAny_bind (wpAny_load (get?_update_seq e2 _) ?_)
  have e3 : ((#[] : Array Value) ++ vs.toArray).toList = vs := by simp
  show wpAny _ _ (pure ((#[] : Array Value) ++ vs.toArray).toList) Q E _
  rw [e3]
  exact wpAny_pure h
theorem sorted_tup {l : Addr} {vs : List Value} {ns : List Int} {Q : Value → Shared → Prop} (hl : IsTup s.heap l vs.toArray) (hI : IntsAre vs ns) (h64 : vs.length < 64)
    (h : ∀ (out : Array Value) (ns' : List Int), IntsAre out.toList ns' → ns'.Perm ns → ns'.Pairwise (· ≤ ·) → Q (.ref (s.heap.objs.size + 1)) { s with heap := sortedAll s.heap vs out }) :
    wpAny (model prog w) A (call (.builtin "sorted") [.ref l]) Q E s := by
  have sl : sizeLine = 16777216 := by decide
  have e0 : ((s.heap.push (seqObj "list" #[] 0)).update s.heap.objs.size (Obj.mapSeq (· ++ vs.toArray))).objs.size = s.heap.objs.size + 1 := by rw [Heap.size_update, size_push']
  have e1 : (((s.heap.push (seqObj "list" #[] 0)).update s.heap.objs.size (Obj.mapSeq (· ++ vs.toArray))).push (seqObj "list" vs.toArray 0)).get? (s.heap.objs.size + 1) = some (seqObj "list" vs.toArray 0) := by
    rw [← e0]
    exact Heap.get?_push_size _ rfl
  refine Calls.call_function_entry kind_sorted plain_sorted entry_sorted (args_sorted1 _) ?_
  unfold Builtin.«sorted»
  refine wpAny_bind (m := checkCount "sorted" 1 1 _) (wpAny_pure (wpAny_bind (coll_tup hl (by omega) (wpAny_bind (wpAny_newList ?_)))))
  show wpAny _ _ _ _ _ { s with heap := ((s.heap.push (seqObj "list" #[] 0)).update s.heap.objs.size (Obj.mapSeq (· ++ vs.toArray))).push (seqObj "list" vs.toArray 0) }
  rw [e0]
  exact wpAny_bind (wpAny_holding (wpAny_call_entry slot_list_sort ⟨_, e1, rfl⟩ entry_list_sort (list_sort_tree e1 hI h64 fun out ns' a1 a2 a3 => ⟨_, rfl, wpAny_pure ⟨_, rfl, h out ns' a1 a2 a3⟩⟩) (args_list_sort _)))
end
def rSortT (K : PySem.W.Frag) : List V → Hp → VK → Prop := fun vs H Q => ∃ (a : Addr) (ns : List Int), vs = [V.ref a] ∧ SqT K H a (ns.map V.int) ∧ ns.length < 64 ∧
  ∀ (ns' : List Int) (p : Addr), ns'.Perm ns → ns'.Pairwise (· ≤ ·) → H p = none → Q (.ref p) (upd H p (.lst (ns'.map V.int)))
theorem cr_sortT {X : Cx} : CallR X (.builtin "sorted") (rSortT X.K) := by
  intro pins s σ H vs us Q I r h
  obtain ⟨a, ns, rfl, hs, h64, q⟩ := h
  obtain ⟨its, rv, hl, _⟩ := I.tuple hs
  rw [Vals.ref1 r]
  refine sorted_tup hl rv.ints (by rw [rv.ints.length]; exact h64) fun out ns' h1 h2 h3 => ?_
  obtain ⟨ep, he'⟩ := PyProof.Rows.sortedAll_at s.heap its out
  have hlen : (ns'.map V.int).length ≤ sizeLine := by rw [List.length_map, h2.length_eq]; exact small64 h64
  exact ⟨.ref _, _, I.laid (o := .lst (ns'.map V.int)) (t' := s.toks) (fun _ _ => PyProof.Rows.sortedAll_old) (Nat.le_succ _) ⟨hlen, out.toList, ep, vals_of_ints h1, he'⟩, rfl, q ns' _ h2 h3 (I.hok.fresh (Nat.le_succ _))⟩
end Tg

/-! Tg, part 8: slices, built-in functions, calls. -/
namespace Tg
open PySem PySem.Spec PyProof.Rows L2
section
variable {X : Cx} {W : Wi} {a b c : Expr} {m n : Ex} {l k : List Nat} {pos : Pos}
/-! slices -/
def tP (K : PySem.W.Frag) (W : Wi) (m : Ox) : TO := fun σ H Q => ∃ (T : Tkn) (B : Addr → Prop) (Z : Nat → Addr → Prop) (rt : Nat → Addr) (e : En), Rel K B W.g Z rt e σ H ∧
  match m e with
  | .ok o => ∀ H', Same H H' → Q o H'
  | .ex d => ∀ c o H', Same H H' → (XC W.xr H d c o H' → W.w c o σ H')
  | .bad => False
abbrev SP (X : Cx) (W : Wi) (x : Option Expr) (m : Ox) : Prop := PO X x (tP X.K W m)
theorem PO.imp {x : Option Expr} {t t' : TO} (h : PO X x t) (f : ∀ σ H Q, t' σ H Q → t σ H Q) : PO X x t' := ⟨fun pins s σ H Q I q => h.run pins s σ H Q I (f σ H Q q)⟩
theorem p_none : SP X W none pNone := PO.imp po_none fun σ H Q ⟨T, B, Z, rt, e, r, q⟩ => q H (Same.refl H)
theorem p_some (ha : SE X W a m l) : SP X W (some a) (pSome m) := by
  refine PO.imp (po_some ha) fun σ H Q ⟨T, B, Z, rt, e, r, q⟩ => ?_
  unfold pSome at q
  refine tE_go r (fun d hd => by rw [hd] at q; exact q) (fun hd => by rw [hd] at q; exact q) fun s x H1 hs sm r1 rs => ?_
  rw [hs, R.bind_ok] at q
  cases s with
  | own ds => exact q.elim
  | dct _ _ => exact q.elim
  | sto _ _ => exact q.elim
  | both d os =>
    cases d with
    | int i =>
      obtain rfl : x = .int i := rs.1
      exact ⟨i, rfl, q H1 sm⟩
    | _ => exact q.elim
  | val d =>
    cases d with
    | jnk => exact q.elim
    | opq _ => exact q.elim
    | int i =>
      obtain rfl : x = .int i := rs
      exact ⟨i, rfl, q H1 sm⟩
    | non => exact q.elim
    | bl _ => exact q.elim
    | str _ => exact q.elim
    | tup _ => exact q.elim
    | lst _ => exact q.elim
    | scr _ => exact q.elim
    | exc _ _ => exact q.elim
theorem x_sl {lo hi : Option Expr} {p q : Ox} {p2 : Pos} (ha : SE X W a m l) (hl : SP X W lo p) (hh : SP X W hi q) : SE X W (.Subscript a (.Slice lo hi none p2) pos) (eSl m p q) l := by
  refine PE.imp (pe_slice sl_4 ha hl hh) fun σ H Q ⟨T, B, Z, rt, e, r, z⟩ => ?_
  unfold eSl at z
  refine tE_go r (fun d hd => by rw [hd] at z; exact z) (fun hd => by rw [hd] at z; exact z) fun s x H1 hs sm r1 rs => ?_
  rw [hs, R.bind_ok] at z
  refine ⟨T, B, Z, rt, e, r1, ?_⟩
  cases hp : p e with
  | bad => rw [hp] at z; exact z.elim
  | ex d => rw [hp] at z; exact fun c o H' sm' => (fun z9 => z c o H' (sm.trans sm') (z9.mo sm))
  | ok i =>
    rw [hp, R.bind_ok] at z
    intro H2 sm2
    refine ⟨T, B, Z, rt, e, r1.ext sm2, ?_⟩
    cases hq : q e with
    | bad => rw [hq] at z; exact z.elim
    | ex d => rw [hq] at z; exact fun c o H' sm' => (fun z9 => z c o H' ((sm.trans sm2).trans sm') (z9.mo (sm.trans sm2)))
    | ok j =>
      rw [hq, R.bind_ok] at z
      intro H3 sm3
      have e1 : Rep X.K (NZ W.g Z e rt l H) H3 s.d x := (((rs.d fun a z => .inr (.inl z)).same sm2).same sm3)
      refine o_sl i j _ H3 s.d x Q e1 (okR_of (N' := NZ W.g Z e rt l H) (fun h => by rw [h] at z; exact z) (nx_sl i j _) (fun a y => ?_) fun s3 h3 x3 H4 sm4 rs3 => ?_)
      · rcases y with y | y
        · exact y
        · exact .inr (.inl (((sm.trans sm2).trans sm3).free y))
      · rw [h3] at z
        exact z x3 H4 (((sm.trans sm2).trans sm3).trans sm4) (rs3.back ((sm.trans sm2).trans sm3))
theorem x_rev {j p1 p2 p3} (ha : SE X W a m l) : SE X W (.Subscript a (.Slice none none (some (.UnaryOp .USub (.Constant (.int 1) j p1) p2)) p3) pos) (eOp1 oRev m) l := by
  refine PE.imp (pe_revL ha) (fun σ H Q q => sim1 (r := fun x H1 Q => ∃ a xs, x = .ref a ∧ SqL X.K H1 a xs ∧ ∀ p, H1 p = none → Q (.ref p) (upd H1 p (.lst xs.reverse))) ?_ nx_rev σ H Q q)
  intro T N H d x Q rd h
  cases d <;> first | exact False.elim h | skip
  rename_i ds
  obtain ⟨a, xs, rfl, s1, r1⟩ := rd
  exact ⟨a, xs, rfl, .inl (.inl s1.2), fun p hp => ok_own h r1.reverse hp⟩

/-! built-in functions of one and of two arguments -/
def C1 (K : PySem.W.Frag) (r : List V → Hp → VK → Prop) (f : D → R S) : Prop := ∀ {T : Tkn} (N : Addr → Prop) (H : Hp) (d : D) (x : V) (Q : VK), Rep K N H d x → OkR K N H Q (f d) → r [x] H Q
def C2 (K : PySem.W.Frag) (r : List V → Hp → VK → Prop) (f : D → D → R S) : Prop := ∀ {T : Tkn} (N : Addr → Prop) (H : Hp) (d c : D) (x y : V) (Q : VK), Rep K N H d x → Rep K N H c y → OkR K N H Q (f d c) → r [x, y] H Q
variable {id T : String} {f : D → R S} {g : D → D → R S} {r : List V → Hp → VK → Prop} {nm : Str} {p : Pos}
theorem x_b1 (hc : CallR X (.builtin id) r) (o : C1 X.K r f) (nx : NoEx1 f) (hm : X.mg nm = none) (hv : bootBuiltins nm = some (.builtin id)) (ha : SE X W a m l) (hg : Gl X nm := by rfl) (hn : nm ≠ "__name__" := by decide) (hdb : (nm == ("__debug__" : Str)) = false := by decide)
    (he : starEach [a] X.env = (false, eval a X.env) :: starEach [] X.env := by rfl) (hpl : (backTo pos (starEach ([] : List Expr) X.env)).any (·.1) = false := by rfl) : SE X W (.Call (.Name nm p) [a] [] pos) (eOp1 f m) l :=
  PE.imp (pe_callB hc hg hm hv (pa_cons ha pa_nil he) hn hdb he hpl) fun σ H Q q => sim1 (r := fun x H Q => r [x] H Q) o nx σ H Q q
theorem x_y1 (hc : CallR X (.type T) r) (o : C1 X.K r f) (nx : NoEx1 f) (hm : X.mg nm = none) (hv : bootBuiltins nm = some (.type T)) (ha : SE X W a m l) (hg : Gl X nm := by rfl) (hn : nm ≠ "__name__" := by decide) (hdb : (nm == ("__debug__" : Str)) = false := by decide)
    (he : starEach [a] X.env = (false, eval a X.env) :: starEach [] X.env := by rfl) (hpl : (backTo pos (starEach ([] : List Expr) X.env)).any (·.1) = false := by rfl) : SE X W (.Call (.Name nm p) [a] [] pos) (eOp1 f m) l :=
  PE.imp (pe_callTy hc hg hm hv (pa_cons ha pa_nil he) hn hdb he hpl) fun σ H Q q => sim1 (r := fun x H Q => r [x] H Q) o nx σ H Q q
theorem x_b2 (hc : CallR X (.builtin id) r) (o : C2 X.K r g) (nx : NoEx2 g) (hm : X.mg nm = none) (hv : bootBuiltins nm = some (.builtin id)) (ha : SE X W a m l) (hb : SE X W b n k) (hg : Gl X nm := by rfl) (hn : nm ≠ "__name__" := by decide) (hdb : (nm == ("__debug__" : Str)) = false := by decide)
    (he : starEach [a, b] X.env = (false, eval a X.env) :: starEach [b] X.env := by rfl) (he2 : starEach [b] X.env = (false, eval b X.env) :: starEach [] X.env := by rfl) (hpl : (backTo pos (starEach [b] X.env)).any (·.1) = false := by rfl) : SE X W (.Call (.Name nm p) [a, b] [] pos) (eOp2 g m n) (l ++ k) :=
  PE.imp (pe_callB hc hg hm hv (pa_cons ha (pa_cons hb pa_nil he2) he) hn hdb he hpl) fun σ H Q q => sim2 (r := fun x y H Q => r [x, y] H Q) o nx σ H Q q

def rLen4 (K : PySem.W.Frag) : List V → Hp → VK → Prop := fun xs H Q => (∃ p ys, xs = [.ref p] ∧ (SqL K H p ys ∨ SqT K H p ys) ∧ Q (.int ys.length) H) ∨ (∃ z, xs = [.str z] ∧ z.length ≤ sizeLine ∧ Q (.int z.length) H)
theorem c_len4 : CallR X (.builtin "len") (rLen4 X.K) := call_len_seq.or call_len_str
theorem o_len {K : PySem.W.Frag} : C1 K (rLen4 K) oLen := by
  intro T N H d x Q rd h
  cases d <;> first | exact False.elim h | skip
  · rename_i s
    obtain rfl : x = .str ⟨s.toArray⟩ := rd
    obtain ⟨hl, h⟩ := ok_if h
    refine .inr ⟨_, rfl, by rw [str_len]; exact lim_line hl, ?_⟩
    rw [str_len]
    exact ok_int h
  · rename_i ds
    obtain ⟨a, xs, rfl, s1, r1⟩ := rd
    refine .inl ⟨a, xs, rfl, .inr (sqt s1), ?_⟩
    rw [r1.length]
    exact ok_int h
  · rename_i ds
    obtain ⟨a, xs, rfl, s1, r1⟩ := rd
    refine .inl ⟨a, xs, rfl, .inl (.inl (.inl s1.2)), ?_⟩
    rw [r1.length]
    exact ok_int h
  · rename_i ns
    obtain ⟨a, rfl, s1⟩ := rd
    refine .inl ⟨a, _, rfl, .inl s1.seq, ?_⟩
    rw [List.length_map]
    exact ok_int h
theorem nx_len : NoEx1 oLen := by
  intro d e h
  unfold oLen at h
  split at h <;> (try split at h) <;> cases h
theorem fl_len : Fl1 oLen := by
  intro d s h
  unfold oLen at h
  split at h <;> (try split at h) <;> cases h <;> exact ⟨_, rfl, rfl⟩
theorem x_len (hm : X.mg "len" = none) (ha : SE X W a m l) (hg : Gl X "len" := by rfl) (he : starEach [a] X.env = (false, eval a X.env) :: starEach [] X.env := by rfl) (hpl : (backTo pos (starEach ([] : List Expr) X.env)).any (·.1) = false := by rfl) :
    SE X W (.Call (.Name "len" p) [a] [] pos) (eOp1 oLen m) [] := x_flat (x_b1 c_len4 o_len nx_len hm PySem.boot_len ha hg (by decide) (by decide) he hpl) (fl_e1 fl_len)

theorem o_list {K : PySem.W.Frag} : C1 K (fun xs H Q => ∃ p ys, xs = [.ref p] ∧ (SqL K H p ys ∨ SqT K H p ys) ∧ ∀ l, H l = none → Q (.ref l) (upd H l (.lst ys))) oList := by
  intro T N H d x Q rd h
  cases d <;> first | exact False.elim h | skip
  · rename_i ds
    obtain ⟨a, xs, rfl, s1, r1⟩ := rd
    exact ⟨a, xs, rfl, .inr (sqt s1), fun p hp => ok_own h r1 hp⟩
  · rename_i ds
    obtain ⟨a, xs, rfl, s1, r1⟩ := rd
    exact ⟨a, xs, rfl, .inl (.inl (.inl s1.2)), fun p hp => ok_own h r1 hp⟩
theorem nx_list : NoEx1 oList := by
  intro d e h
  unfold oList at h
  split at h <;> cases h
theorem x_list (hm : X.mg "list" = none) (ha : SE X W a m l) (hg : Gl X "list" := by rfl) (he : starEach [a] X.env = (false, eval a X.env) :: starEach [] X.env := by rfl) (hpl : (backTo pos (starEach ([] : List Expr) X.env)).any (·.1) = false := by rfl) :
    SE X W (.Call (.Name "list" p) [a] [] pos) (eOp1 oList m) l := x_y1 call_list_of o_list nx_list hm (by decide +kernel) ha hg (by decide) (by decide) he hpl
theorem o_tuple {K : PySem.W.Frag} : C1 K (fun xs H Q => ∃ p ys, xs = [.ref p] ∧ ((SqL K H p ys ∧ ∀ l, H l = none → Q (.ref l) (upd H l (.tup ys))) ∨ (SqT K H p ys ∧ Q (.ref p) H))) oTuple := by
  intro T N H d x Q rd h
  cases d <;> first | exact False.elim h | skip
  · rename_i ds
    obtain ⟨a, xs, rfl, s1, r1⟩ := rd
    exact ⟨a, xs, rfl, .inr ⟨sqt s1, ok_val h ⟨a, xs, rfl, s1, r1⟩⟩⟩
  · rename_i ds
    obtain ⟨a, xs, rfl, s1, r1⟩ := rd
    exact ⟨a, xs, rfl, .inl ⟨.inl (.inl s1.2), fun p hp => ok_tup h r1 hp⟩⟩
theorem nx_tuple : NoEx1 oTuple := by
  intro d e h
  unfold oTuple at h
  split at h <;> cases h
theorem x_tuple (hm : X.mg "tuple" = none) (ha : SE X W a m l) (hg : Gl X "tuple" := by rfl) (he : starEach [a] X.env = (false, eval a X.env) :: starEach [] X.env := by rfl) (hpl : (backTo pos (starEach ([] : List Expr) X.env)).any (·.1) = false := by rfl) :
    SE X W (.Call (.Name "tuple" p) [a] [] pos) (eOp1 oTuple m) l := x_y1 call_tuple_of o_tuple nx_tuple hm (by decide +kernel) ha hg (by decide) (by decide) he hpl
theorem o_int1 {K : PySem.W.Frag} : C1 K (fun xs H Q => (∃ i, xs = [.int i] ∧ Q (.int i) H) ∨ ∃ k, xs = [.bl k] ∧ Q (.int (if k then 1 else 0)) H) oInt := by
  intro T N H d x Q rd h
  cases d <;> first | exact False.elim h | skip
  · rename_i b
    obtain rfl : x = .bl b := rd
    exact .inr ⟨b, rfl, ok_int h⟩
  · rename_i i
    obtain rfl : x = .int i := rd
    exact .inl ⟨i, rfl, ok_int h⟩
theorem nx_int : NoEx1 oInt := by
  intro d e h
  unfold oInt at h
  split at h <;> cases h
theorem fl_int : Fl1 oInt := by
  intro d s h
  unfold oInt at h
  split at h <;> cases h <;> exact ⟨_, rfl, rfl⟩
theorem x_toInt (hm : X.mg "int" = none) (ha : SE X W a m l) (hg : Gl X "int" := by rfl) (he : starEach [a] X.env = (false, eval a X.env) :: starEach [] X.env := by rfl) (hpl : (backTo pos (starEach ([] : List Expr) X.env)).any (·.1) = false := by rfl) :
    SE X W (.Call (.Name "int" p) [a] [] pos) (eOp1 oInt m) [] := x_flat (x_y1 call_int1 o_int1 nx_int hm (by decide +kernel) ha hg (by decide) (by decide) he hpl) (fl_e1 fl_int)

/-! folds of a list -/
theorem o_min {K : PySem.W.Frag} : C1 K (rMinB K) oMin := by
  intro T N H d x Q rd h
  cases d <;> first | exact False.elim h | skip
  · rename_i ds
    obtain ⟨a, xs, rfl, s1, r1⟩ := rd
    unfold oMin at h
    cases e : D.ints ds with
    | none => simp only [e] at h; exact False.elim h
    | some ns =>
      cases ns with
      | nil => simp only [e] at h; exact False.elim h
      | cons y r =>
        simp only [e] at h
        have q := ints_some e
        subst q
        rw [r1.ints] at s1
        refine .inr ⟨a, y :: r, rfl, sqt s1, Nat.succ_pos _, fun m hm hy => ?_⟩
        have e1 : m = minI y r := by
          have h1 := hy _ (minI_mem r y)
          have h2 := (minI_le r y)
          rcases List.mem_cons.mp hm with z | z
          · rw [z] at h1 ⊢
            exact Int.le_antisymm h1 h2.1
          · exact Int.le_antisymm h1 (h2.2 m z)
        rw [e1]
        exact ok_int h
  · rename_i ds
    obtain ⟨a, xs, rfl, s1, r1⟩ := rd
    unfold oMin at h
    cases e : D.ints ds with
    | none => simp only [e] at h; exact False.elim h
    | some ns =>
      cases ns with
      | nil => simp only [e] at h; exact False.elim h
      | cons y r =>
        simp only [e] at h
        have q := ints_some e
        subst q
        rw [r1.ints] at s1
        refine .inl ⟨a, y :: r, rfl, .inl (.inl s1.2), Nat.succ_pos _, fun m hm hy => ?_⟩
        have e1 : m = minI y r := by
          have h1 := hy _ (minI_mem r y)
          have h2 := (minI_le r y)
          rcases List.mem_cons.mp hm with z | z
          · rw [z] at h1 ⊢
            exact Int.le_antisymm h1 h2.1
          · exact Int.le_antisymm h1 (h2.2 m z)
        rw [e1]
        exact ok_int h
theorem o_max {K : PySem.W.Frag} : C1 K (rMaxB K) oMax := by
  intro T N H d x Q rd h
  cases d <;> first | exact False.elim h | skip
  · rename_i ds
    obtain ⟨a, xs, rfl, s1, r1⟩ := rd
    unfold oMax at h
    cases e : D.ints ds with
    | none => simp only [e] at h; exact False.elim h
    | some ns =>
      cases ns with
      | nil => simp only [e] at h; exact False.elim h
      | cons y r =>
        simp only [e] at h
        have q := ints_some e
        subst q
        rw [r1.ints] at s1
        refine .inr ⟨a, y :: r, rfl, sqt s1, Nat.succ_pos _, fun m hm hy => ?_⟩
        have e1 : m = maxI y r := by
          have h1 := hy _ (maxI_mem r y)
          have h2 := (maxI_le r y)
          rcases List.mem_cons.mp hm with z | z
          · rw [z] at h1 ⊢
            exact Int.le_antisymm h2.1 h1
          · exact Int.le_antisymm (h2.2 m z) h1
        rw [e1]
        exact ok_int h
  · rename_i ds
    obtain ⟨a, xs, rfl, s1, r1⟩ := rd
    unfold oMax at h
    cases e : D.ints ds with
    | none => simp only [e] at h; exact False.elim h
    | some ns =>
      cases ns with
      | nil => simp only [e] at h; exact False.elim h
      | cons y r =>
        simp only [e] at h
        have q := ints_some e
        subst q
        rw [r1.ints] at s1
        refine .inl ⟨a, y :: r, rfl, .inl (.inl s1.2), Nat.succ_pos _, fun m hm hy => ?_⟩
        have e1 : m = maxI y r := by
          have h1 := hy _ (maxI_mem r y)
          have h2 := (maxI_le r y)
          rcases List.mem_cons.mp hm with z | z
          · rw [z] at h1 ⊢
            exact Int.le_antisymm h2.1 h1
          · exact Int.le_antisymm (h2.2 m z) h1
        rw [e1]
        exact ok_int h
theorem o_sum {K : PySem.W.Frag} : C1 K (rSum K) oSum := by
  intro T N H d x Q rd h
  cases d <;> first | exact False.elim h | skip
  rename_i ds
  obtain ⟨a, xs, rfl, s1, r1⟩ := rd
  unfold oSum at h
  cases e : D.ints ds with
  | none => simp only [e] at h; exact False.elim h
  | some ns =>
    simp only [e] at h
    have q := ints_some e
    subst q
    rw [r1.ints] at s1
    exact ⟨a, ns, rfl, .inl (.inl s1.2), ok_int h⟩
theorem o_any {K : PySem.W.Frag} : C1 K (rAny K) oAny := by
  intro T N H d x Q rd h
  cases d <;> first | exact False.elim h | skip
  rename_i ds
  obtain ⟨a, xs, rfl, s1, r1⟩ := rd
  unfold oAny at h
  cases e : D.bls ds with
  | none => simp only [e] at h; exact False.elim h
  | some ns =>
    simp only [e] at h
    have q := bls_some e
    subst q
    rw [r1.bls] at s1
    exact ⟨a, ns, rfl, .inl (.inl s1.2), ok_bl h⟩
theorem o_all {K : PySem.W.Frag} : C1 K (rAll K) oAll := by
  intro T N H d x Q rd h
  cases d <;> first | exact False.elim h | skip
  rename_i ds
  obtain ⟨a, xs, rfl, s1, r1⟩ := rd
  unfold oAll at h
  cases e : D.bls ds with
  | none => simp only [e] at h; exact False.elim h
  | some ns =>
    simp only [e] at h
    have q := bls_some e
    subst q
    rw [r1.bls] at s1
    exact ⟨a, ns, rfl, .inl (.inl s1.2), ok_bl h⟩
theorem nf_min : NoEx1 oMin ∧ Fl1 oMin := by
  refine ⟨fun d e h => ?_, fun d s h => ?_⟩ <;> unfold oMin at h <;> split at h <;> (try split at h) <;> cases h <;> exact ⟨_, rfl, rfl⟩
theorem nf_max : NoEx1 oMax ∧ Fl1 oMax := by
  refine ⟨fun d e h => ?_, fun d s h => ?_⟩ <;> unfold oMax at h <;> split at h <;> (try split at h) <;> cases h <;> exact ⟨_, rfl, rfl⟩
theorem nf_sum : NoEx1 oSum ∧ Fl1 oSum := by
  refine ⟨fun d e h => ?_, fun d s h => ?_⟩ <;> unfold oSum at h <;> split at h <;> (try split at h) <;> cases h <;> exact ⟨_, rfl, rfl⟩
theorem nf_any : NoEx1 oAny ∧ Fl1 oAny := by
  refine ⟨fun d e h => ?_, fun d s h => ?_⟩ <;> unfold oAny at h <;> split at h <;> (try split at h) <;> cases h <;> exact ⟨_, rfl, rfl⟩
theorem nf_all : NoEx1 oAll ∧ Fl1 oAll := by
  refine ⟨fun d e h => ?_, fun d s h => ?_⟩ <;> unfold oAll at h <;> split at h <;> (try split at h) <;> cases h <;> exact ⟨_, rfl, rfl⟩
theorem x_min (hc : X.calm = true) (hm : X.mg "min" = none) (ha : SE X W a m l) (hg : Gl X "min" := by rfl) (he : starEach [a] X.env = (false, eval a X.env) :: starEach [] X.env := by rfl) (hpl : (backTo pos (starEach ([] : List Expr) X.env)).any (·.1) = false := by rfl) :
    SE X W (.Call (.Name "min" p) [a] [] pos) (eOp1 oMin m) [] := x_flat (x_b1 (cr_minB hc) o_min nf_min.1 hm (by decide +kernel) ha hg (by decide) (by decide) he hpl) (fl_e1 nf_min.2)
theorem x_max (hc : X.calm = true) (hm : X.mg "max" = none) (ha : SE X W a m l) (hg : Gl X "max" := by rfl) (he : starEach [a] X.env = (false, eval a X.env) :: starEach [] X.env := by rfl) (hpl : (backTo pos (starEach ([] : List Expr) X.env)).any (·.1) = false := by rfl) :
    SE X W (.Call (.Name "max" p) [a] [] pos) (eOp1 oMax m) [] := x_flat (x_b1 (cr_maxB hc) o_max nf_max.1 hm (by decide +kernel) ha hg (by decide) (by decide) he hpl) (fl_e1 nf_max.2)
theorem x_sum (hc : X.calm = true) (hm : X.mg "sum" = none) (ha : SE X W a m l) (hg : Gl X "sum" := by rfl) (he : starEach [a] X.env = (false, eval a X.env) :: starEach [] X.env := by rfl) (hpl : (backTo pos (starEach ([] : List Expr) X.env)).any (·.1) = false := by rfl) :
    SE X W (.Call (.Name "sum" p) [a] [] pos) (eOp1 oSum m) [] := x_flat (x_b1 (cr_sum hc) o_sum nf_sum.1 hm (by decide +kernel) ha hg (by decide) (by decide) he hpl) (fl_e1 nf_sum.2)
theorem x_any (hc : X.calm = true) (hm : X.mg "any" = none) (ha : SE X W a m l) (hg : Gl X "any" := by rfl) (he : starEach [a] X.env = (false, eval a X.env) :: starEach [] X.env := by rfl) (hpl : (backTo pos (starEach ([] : List Expr) X.env)).any (·.1) = false := by rfl) :
    SE X W (.Call (.Name "any" p) [a] [] pos) (eOp1 oAny m) [] := x_flat (x_b1 (cr_any hc) o_any nf_any.1 hm (by decide +kernel) ha hg (by decide) (by decide) he hpl) (fl_e1 nf_any.2)
theorem x_all (hc : X.calm = true) (hm : X.mg "all" = none) (ha : SE X W a m l) (hg : Gl X "all" := by rfl) (he : starEach [a] X.env = (false, eval a X.env) :: starEach [] X.env := by rfl) (hpl : (backTo pos (starEach ([] : List Expr) X.env)).any (·.1) = false := by rfl) :
    SE X W (.Call (.Name "all" p) [a] [] pos) (eOp1 oAll m) [] := x_flat (x_b1 (cr_all hc) o_all nf_all.1 hm (by decide +kernel) ha hg (by decide) (by decide) he hpl) (fl_e1 nf_all.2)
theorem x_max2 (hc : X.calm = true) (hm : X.mg "max" = none) (ha : SE X W a m l) (hb : SE X W b n k) (hg : Gl X "max" := by rfl) (he : starEach [a, b] X.env = (false, eval a X.env) :: starEach [b] X.env := by rfl) (he2 : starEach [b] X.env = (false, eval b X.env) :: starEach [] X.env := by rfl)
    (hpl : (backTo pos (starEach [b] X.env)).any (·.1) = false := by rfl) : SE X W (.Call (.Name "max" p) [a, b] [] pos) (eOp2 oMax2 m n) [] := by
  refine x_flat (x_b2 (call_max2 hc) (g := oMax2) ?_ (fun d c e h => by unfold oMax2 at h; split at h <;> cases h) hm (by decide +kernel) ha hb hg (by decide) (by decide) he he2 hpl) (fl_e2 fun d c s h => by unfold oMax2 at h; split at h <;> cases h <;> exact ⟨_, rfl, rfl⟩)
  intro T N H d c x y Q rd rc h
  cases d <;> cases c <;> first | exact False.elim h | skip
  rename_i i j
  obtain rfl : x = .int i := rd
  obtain rfl : y = .int j := rc
  exact ⟨i, j, rfl, ok_int h⟩

/-! sorted -/
theorem insI_perm (x : Int) : ∀ r : List Int, (insI x r).Perm (x :: r)
  | [] => List.Perm.refl _
  | y :: r => by
    unfold insI
    split
    · exact List.Perm.refl _
    · exact ((insI_perm x r).cons y).trans (List.Perm.swap x y r)
theorem sortI_perm : ∀ r : List Int, (sortI r).Perm r
  | [] => List.Perm.refl _
  | x :: r => (insI_perm x _).trans ((sortI_perm r).cons x)
theorem insI_pw (x : Int) : ∀ r : List Int, r.Pairwise (· ≤ ·) → (insI x r).Pairwise (· ≤ ·)
  | [], _ => List.pairwise_singleton _ _
  | y :: r, h => by
    have h' := List.pairwise_cons.mp h
    unfold insI
    split
    · rename_i hxy
      exact List.pairwise_cons.mpr ⟨fun z hz => by
        rcases List.mem_cons.mp hz with e | hz
        · rw [e]; exact hxy
        · exact Int.le_trans hxy (h'.1 z hz), h⟩
    · rename_i hxy
      refine List.pairwise_cons.mpr ⟨fun z hz => ?_, insI_pw x r h'.2⟩
      rcases List.mem_cons.mp ((insI_perm x r).mem_iff.mp hz) with e | hz
      · rw [e]; omega
      · exact h'.1 z hz
theorem sortI_pw : ∀ r : List Int, (sortI r).Pairwise (· ≤ ·)
  | [] => List.Pairwise.nil
  | x :: r => insI_pw x _ (sortI_pw r)
theorem sorted_one {a b : List Int} (p : a.Perm b) (ha : a.Pairwise (· ≤ ·)) (hb : b.Pairwise (· ≤ ·)) : a = b :=
  List.Perm.eq_of_pairwise (le := (· ≤ ·)) (fun x y _ _ h1 h2 => Int.le_antisymm h1 h2) ha hb p
theorem sortI_one {a b : List Int} (p : a.Perm b) (ha : a.Pairwise (· ≤ ·)) : a = sortI b := sorted_one (p.trans (sortI_perm b).symm) ha (sortI_pw b)
theorem o_sorted {K : PySem.W.Frag} : C1 K (fun xs H Q => rSorted K xs H Q ∨ rSortT K xs H Q) oSorted := by
  intro T N H d x Q rd h
  cases d <;> first | exact False.elim h | skip
  · rename_i ds
    obtain ⟨a, xs, rfl, s1, r1⟩ := rd
    unfold oSorted at h
    cases e : D.ints ds with
    | none => simp only [e] at h; exact False.elim h
    | some ns =>
      simp only [e] at h
      obtain ⟨hl, h⟩ := ok_if h
      have q := ints_some e
      subst q
      rw [r1.ints] at s1
      refine .inr ⟨a, ns, rfl, sqt s1, hl, fun ns' p h1 h2 hp => ?_⟩
      rw [sortI_one h1 h2]
      exact ok_own h (RepL.of_ints _) hp
  · rename_i ds
    obtain ⟨a, xs, rfl, s1, r1⟩ := rd
    unfold oSorted at h
    cases e : D.ints ds with
    | none => simp only [e] at h; exact False.elim h
    | some ns =>
      simp only [e] at h
      obtain ⟨hl, h⟩ := ok_if h
      have q := ints_some e
      subst q
      rw [r1.ints] at s1
      refine .inl ⟨a, ns, rfl, .inl (.inl s1.2), hl, fun ns' p h1 h2 hp => ?_⟩
      rw [sortI_one h1 h2]
      exact ok_own h (RepL.of_ints _) hp
theorem nx_sorted : NoEx1 oSorted := by
  intro d e h
  unfold oSorted at h
  split at h <;> (try split at h) <;> (try split at h) <;> cases h
theorem x_sorted (hm : X.mg "sorted" = none) (ha : SE X W a m l) (hg : Gl X "sorted" := by rfl) (he : starEach [a] X.env = (false, eval a X.env) :: starEach [] X.env := by rfl) (hpl : (backTo pos (starEach ([] : List Expr) X.env)).any (·.1) = false := by rfl) :
    SE X W (.Call (.Name "sorted" p) [a] [] pos) (eOp1 oSorted m) l := x_b1 (cr_sorted.or cr_sortT) o_sorted nx_sorted hm (by decide +kernel) ha hg (by decide) (by decide) he hpl
end
end Tg

/-! Tg, part 9: keeping and changing environments; targets, what is walked, comprehensions. -/
namespace Tg
open PySem PySem.Spec PyProof.Rows L2

theorem freeze1_length (i : Nat) (e : En) : (freeze1 i e).length = e.length := by
  unfold freeze1
  split
  · rw [List.length_set]
  · rw [List.length_set]
  · rfl
theorem freeze_length : ∀ (l : List Nat) (e : En), (freeze l e).length = e.length
  | [], _ => rfl
  | i :: l, e => by rw [freeze_cons, freeze_length l, freeze1_length]
theorem set_both {i j : Nat} {e : En} {s : S} (h : (e.set i (some (S.both .jnk [])))[j]? = some (some s)) (hs : ∀ d os, s ≠ .both d os) : e[j]? = some (some s) ∧ j ≠ i := by
  by_cases q : i = j
  · subst q
    by_cases hl : i < e.length
    · rw [List.getElem?_set_self hl] at h
      exact absurd (Option.some.inj (Option.some.inj h)).symm (hs _ _)
    · rw [List.getElem?_eq_none (by rw [List.length_set]; omega)] at h
      cases h
  · rw [List.getElem?_set_ne q] at h
    exact ⟨h, fun z => q z.symm⟩
theorem freeze1_own {i j : Nat} {e : En} {ds : List D} (h : (freeze1 i e)[j]? = some (some (.own ds))) : e[j]? = some (some (.own ds)) ∧ j ≠ i := by
  unfold freeze1 at h
  split at h
  · rename_i es he
    by_cases q : i = j
    · subst q
      have hl : i < e.length := (List.getElem?_eq_some_iff.mp he).1
      rw [List.getElem?_set_self hl] at h
      cases h
    · rw [List.getElem?_set_ne q] at h
      exact ⟨h, fun z => q z.symm⟩
  · rename_i he
    obtain ⟨h, q⟩ := set_both h (fun _ _ z => nomatch z)
    exact ⟨h, q⟩
  · rename_i hn _
    refine ⟨h, fun z => ?_⟩
    subst z
    exact hn ds h
theorem freeze1_val {i j : Nat} {e : En} {d : D} (h : (freeze1 i e)[j]? = some (some (.val d))) : e[j]? = some (some (.val d)) ∨ (j = i ∧ ∃ ds, d = .lst ds ∧ e[j]? = some (some (.own ds))) := by
  unfold freeze1 at h
  split at h
  · rename_i es he
    by_cases q : i = j
    · subst q
      have hl : i < e.length := (List.getElem?_eq_some_iff.mp he).1
      rw [List.getElem?_set_self hl] at h
      have h' : D.lst es = d := by simpa using h
      exact .inr ⟨rfl, es, h'.symm, he⟩
    · rw [List.getElem?_set_ne q] at h
      exact .inl h
  · exact .inl (set_both h (fun _ _ z => nomatch z)).1
  · exact .inl h
theorem freeze_own : ∀ {l : List Nat} {j : Nat} {e : En} {ds : List D}, (freeze l e)[j]? = some (some (.own ds)) → e[j]? = some (some (.own ds)) ∧ j ∉ l
  | [], _, _, _, h => ⟨h, fun z => nomatch z⟩
  | i :: l, j, e, ds, h => by
    rw [freeze_cons] at h
    obtain ⟨h1, h2⟩ := freeze_own h
    obtain ⟨h3, h4⟩ := freeze1_own h1
    exact ⟨h3, fun z => (List.mem_cons.mp z).elim h4 h2⟩
theorem freeze_val : ∀ {l : List Nat} {j : Nat} {e : En} {d : D}, (freeze l e)[j]? = some (some (.val d)) → e[j]? = some (some (.val d)) ∨ (j ∈ l ∧ ∃ ds, d = .lst ds ∧ e[j]? = some (some (.own ds)))
  | [], _, _, _, h => .inl h
  | i :: l, j, e, d, h => by
    rw [freeze_cons] at h
    rcases freeze_val h with h1 | ⟨h1, ds, h2, h3⟩
    · rcases freeze1_val h1 with h | ⟨h4, h5⟩
      · exact .inl h
      · exact .inr ⟨by rw [h4]; exact List.mem_cons_self, h5⟩
    · exact .inr ⟨List.mem_cons_of_mem _ h1, ds, h2, (freeze1_own h3).1⟩
theorem freeze1_dct {i j : Nat} {e : En} {t : Nat} {kvs : List (List Int × D)} (h : (freeze1 i e)[j]? = some (some (.dct t kvs))) : e[j]? = some (some (.dct t kvs)) := by
  unfold freeze1 at h
  split at h
  · rename_i es he
    by_cases q : i = j
    · subst q
      have hl : i < e.length := (List.getElem?_eq_some_iff.mp he).1
      rw [List.getElem?_set_self hl] at h
      cases h
    · rw [List.getElem?_set_ne q] at h
      exact h
  · exact (set_both h (fun _ _ z => nomatch z)).1
  · exact h
theorem freeze1_sto {i j : Nat} {e : En} {m : Nat} {os : List O} (h : (freeze1 i e)[j]? = some (some (.sto m os))) : e[j]? = some (some (.sto m os)) ∧ (m ≠ 2 ∨ j ≠ i) := by
  unfold freeze1 at h
  split at h
  · rename_i es he
    by_cases q : i = j
    · subst q
      have hl : i < e.length := (List.getElem?_eq_some_iff.mp he).1
      rw [List.getElem?_set_self hl] at h
      cases h
    · rw [List.getElem?_set_ne q] at h
      exact ⟨h, .inr fun z => q z.symm⟩
  · obtain ⟨h, q⟩ := set_both h (fun _ _ z => nomatch z)
    exact ⟨h, .inr q⟩
  · rename_i hn
    refine ⟨h, ?_⟩
    by_cases h2 : m = 2
    · subst h2
      exact .inr fun z => by subst z; exact hn os h
    · exact .inl h2
theorem freeze_sto : ∀ {l : List Nat} {j : Nat} {e : En} {m : Nat} {os : List O}, (freeze l e)[j]? = some (some (.sto m os)) → e[j]? = some (some (.sto m os)) ∧ (m ≠ 2 ∨ j ∉ l)
  | [], _, _, _, _, h => ⟨h, .inr fun z => nomatch z⟩
  | i :: l, j, e, m, os, h => by
    rw [freeze_cons] at h
    obtain ⟨h1, h2⟩ := freeze_sto h
    obtain ⟨h3, h4⟩ := freeze1_sto h1
    refine ⟨h3, ?_⟩
    rcases h2 with h2 | h2
    · exact .inl h2
    · rcases h4 with h4 | h4
      · exact .inl h4
      · exact .inr fun z => (List.mem_cons.mp z).elim h4 h2
theorem freeze_dct : ∀ {l : List Nat} {j : Nat} {e : En} {t : Nat} {kvs : List (List Int × D)}, (freeze l e)[j]? = some (some (.dct t kvs)) → e[j]? = some (some (.dct t kvs))
  | [], _, _, _, _, h => h
  | i :: l, j, e, t, kvs, h => by
    rw [freeze_cons] at h
    exact freeze1_dct (freeze_dct h)
theorem freeze_rooted {l : List Nat} {j : Nat} {e : En} {s : S} (h : (freeze l e)[j]? = some (some s)) (r : s.rooted) : e[j]? = some (some s) := by
  cases s with
  | val d => exact r.elim
  | own ds => exact (freeze_own h).1
  | dct t kvs => exact freeze_dct h
  | sto _ _ => exact r.elim
  | both _ _ => exact r.elim
/-- one slot is set -/
theorem set_get {i j : Nat} {e : En} {v : Option S} {s : S} (h : (e.set i v)[j]? = some (some s)) : (j = i ∧ v = some s ∧ i < e.length) ∨ (j ≠ i ∧ e[j]? = some (some s)) := by
  by_cases hj : i = j
  · subst hj
    by_cases hl : i < e.length
    · rw [List.getElem?_set_self hl] at h
      exact .inl ⟨rfl, by simpa using h, hl⟩
    · rw [List.getElem?_eq_none (by rw [List.length_set]; omega)] at h; cases h
  · rw [List.getElem?_set_ne hj] at h
    exact .inr ⟨fun z => hj z.symm, h⟩
theorem keep_length (l : List Nat) (f : Bool) (e : En) : (keep l f e).length = e.length := by
  cases f
  · exact freeze_length l e
  · rfl

section
variable {T : Tkn} {K : PySem.W.Frag} {B : Addr → Prop} {G : Nat → Nat} {Z : Nat → Addr → Prop} {rt : Nat → Addr} {e : En} {σ : L2.St} {H H1 : Hp}
/-- new nodes (but those of x) and the roots of l are not changed any more: they belong to the group p -/
def ZN [T : Tkn] (p : Nat) (Z : Nat → Addr → Prop) (e : En) (rt : Nat → Addr) (l : List Nat) (H H1 : Hp) (x : Addr → Prop) : Nat → Addr → Prop := fun q a => Z q a ∨ (q = p ∧ ((H a = none ∧ H1 a ≠ none ∧ ¬ x a) ∨ Root e rt l a))
theorem Rel.root (r : Rel K B G Z rt e σ H) {l : List Nat} {a : Addr} (h : Root e rt l a) : B a ∧ ∃ u, H a = some u := by
  obtain ⟨i, hi, ⟨⟨ds, q⟩, rfl⟩ | ⟨⟨os, q⟩, k, hk⟩⟩ := h
  · obtain ⟨_, b, _, xs, h, _⟩ := r.own i ds q
    exact ⟨b, _, h⟩
  · obtain ⟨_, _, _, h⟩ := r.sto i _ os q
    refine ⟨h rfl k a hk, ?_⟩
    · have := (r.tks k a hk).1
      cases h : H a with
      | none => exact absurd h this
      | some u => exact ⟨u, rfl⟩
theorem Rel.rootZ (r : Rel K B G Z rt e σ H) {l : List Nat} {a : Addr} (h : Root e rt l a) : ∀ p, ¬ Z p a := by
  obtain ⟨i, hi, ⟨⟨ds, q⟩, rfl⟩ | ⟨⟨os, q⟩, k, hk⟩⟩ := h
  · exact (r.own i ds q).2.2.1
  · exact (r.sto i _ os q).2.2.1 (by omega) k a hk
theorem Rel.grow (r : Rel K B G Z rt e σ H) (s : Same H H1) (p : Nat) (l : List Nat) (hl : ∀ j ∈ l, G j = p) (x : Addr → Prop) : Rel K B G (ZN p Z e rt l H H1 x) rt (freeze l e) σ H1 := by
  have up : ∀ q a, Z q a → ZN p Z e rt l H H1 x q a := fun q a z => .inl z
  have rz : ∀ (i : Nat) (s : S), e[i]? = some (some s) → s.rooted → (∀ ds, s = .own ds → i ∉ l) → (∀ q, ¬ Z q (rt i)) → H (rt i) ≠ none → ∀ q, ¬ ZN p Z e rt l H H1 x q (rt i) := fun i s h1 h2 h3 h4 h5 q z => by
    rcases z with z | ⟨_, ⟨z, _⟩ | ⟨j, hj, ⟨⟨es, q2⟩, z⟩ | ⟨_, k, hk⟩⟩⟩
    · exact h4 q z
    · exact h5 z
    · have := r.injs i j s _ h1 q2 h2 trivial z
      subst this
      rw [h1] at q2
      cases q2
      exact h3 es rfl hj
    · exact (r.tks k _ hk).2 i s h1 h2 rfl
  refine ⟨by rw [freeze_length]; exact r.len, fun i d q => ?_, fun i ds q => ?_, fun i t kvs q => ?_, fun i j s u q1 q2 h1 h2 => r.injs i j s u (freeze_rooted q1 h1) (freeze_rooted q2 h2) h1 h2, fun q a z => ?_, fun q1 q2 a z1 z2 => ?_, fun q a hq hq9 z => ?_, fun a h => r.yg a (s.free h), fun i m os q => ?_, fun k a q => ?_, r.tki, fun i j s u q1 q2 h1 h2 => ?_⟩
  · rcases freeze_val q with q | ⟨hi, ds, ed, q2⟩
    · obtain ⟨v, h1, h2⟩ := r.val i d q
      exact ⟨v, h1, (h2.same s).mono (up _)⟩
    · subst ed
      obtain ⟨h1, h2, h3, xs, h4, h5⟩ := r.own i ds q2
      exact ⟨_, h1, rt i, xs, rfl, ⟨.inr ⟨hl i hi, .inr ⟨i, hi, .inl ⟨⟨ds, q2⟩, rfl⟩⟩⟩, s _ _ h4⟩, (h5.same s).mono (up _)⟩
  · obtain ⟨q, hi⟩ := freeze_own q
    obtain ⟨h1, h2, h3, xs, h4, h5⟩ := r.own i ds q
    exact ⟨h1, h2, rz i _ q trivial (fun _ _ => hi) h3 (by rw [h4]; exact nofun), xs, s _ _ h4, (h5.same s).mono (up _)⟩
  · have q := freeze_dct q
    obtain ⟨h1, h2, h3, o, h4, h5⟩ := r.dct i t kvs q
    exact ⟨h1, h2, rz i _ q trivial (fun _ z => nomatch z) h3 (by rw [h4]; exact nofun), o, s _ _ h4, h5.still (Same.still s)⟩
  · rcases z with z | ⟨_, ⟨_, z, _⟩ | z⟩
    · exact (r.ext s).al q a z
    · exact z
    · obtain ⟨_, xs, h⟩ := r.root z
      rw [s _ _ h]
      exact fun z => nomatch z
  · have nz : ∀ q, Z q a → ¬ ((H a = none ∧ H1 a ≠ none ∧ ¬ x a) ∨ Root e rt l a) := fun q z k => by
      rcases k with ⟨k, _⟩ | k
      · exact r.al q a z k
      · exact r.rootZ k q z
    rcases z1 with z1 | ⟨e1, z1⟩
    · rcases z2 with z2 | ⟨e2, z2⟩
      · exact r.dj q1 q2 a z1 z2
      · exact absurd z2 (nz q1 z1)
    · rcases z2 with z2 | ⟨e2, z2⟩
      · exact absurd z1 (nz q2 z2)
      · rw [e1, e2]
  · rcases z with z | ⟨eq, ⟨z, _⟩ | z⟩
    · exact r.nw q a hq hq9 z
    · exact r.yg a z
    · exact (r.root z).1
  · obtain ⟨q1, q2⟩ := freeze_sto q
    obtain ⟨h1, h2, h3, h4⟩ := r.sto i m os q1
    refine ⟨(h1.same s).mono (up _), fun e k a z => up _ _ (h2 e k a z), fun e k a z => ?_, h4⟩
    intro q' z'
    rcases z' with z' | ⟨_, ⟨z', _⟩ | ⟨j, hj, ⟨⟨es, q3⟩, z'⟩ | ⟨⟨os2, q3⟩, _⟩⟩⟩
    · exact h3 e k a z q' z'
    · exact (r.tks k a z).1 z'
    · exact (r.tks k a z).2 j _ q3 trivial z'.symm
    · have := r.stu j i _ _ q3 q1 rfl rfl
      subst this
      rw [q1] at q3
      cases q3
      exact q2.elim (fun q2 => q2 rfl) fun q2 => q2 hj
  · obtain ⟨h1, h2⟩ := r.tks k a q
    exact ⟨fun z => h1 (s.free z), fun i u q1 hu => h2 i u (freeze_rooted q1 hu) hu⟩
  · cases s with
    | sto m os =>
      cases u with
      | sto m2 os2 => exact r.stu i j _ _ (freeze_sto q1).1 (freeze_sto q2).1 rfl rfl
      | _ => cases h2
    | _ => cases h1
theorem Rel.setVal (r : Rel K B G Z rt e σ H) (i : Nat) {d : D} {v : V} (h : Rep K (Z (G i)) H d v) : Rel K B G Z rt (e.set i (some (.val d))) (σ.set i (some v)) H := by
  have nw : ∀ (j : Nat) (s : S), (e.set i (some (S.val d)))[j]? = some (some s) → s.rooted → e[j]? = some (some s) ∧ j ≠ i := fun j s q hr => by
    rcases set_get q with ⟨_, z, _⟩ | ⟨hj, q⟩
    · cases z; exact hr.elim
    · exact ⟨q, hj⟩
  have sv : ∀ {j : Nat} {s : S}, (e.set i (some (S.val d)))[j]? = some (some s) → isSto s = true → e[j]? = some (some s) := fun {j s} q hs => by
    rcases set_get q with ⟨_, z, _⟩ | ⟨hj, q⟩
    · cases z; cases hs
    · exact q
  refine ⟨by rw [List.length_set, List.length_set]; exact r.len, fun j c q => ?_, fun j ds q => ?_, fun j t kvs q => ?_, fun j k s u q1 q2 h1 h2 => r.injs j k s u (nw j s q1 h1).1 (nw k u q2 h2).1 h1 h2, r.al, r.dj, r.nw, r.yg, fun j m os q => r.sto j m os (sv q rfl), fun k a z => ⟨(r.tks k a z).1, fun j s q hs => (r.tks k a z).2 j s (nw j s q hs).1 hs⟩, r.tki, fun j k s u q1 q2 h1 h2 => r.stu j k s u (sv q1 h1) (sv q2 h2) h1 h2⟩
  · rcases set_get q with ⟨hj, z, hl⟩ | ⟨hj, q⟩
    · subst hj
      cases z
      exact ⟨v, by rw [List.getElem?_set_self (by rw [← r.len]; exact hl)], h⟩
    · rw [List.getElem?_set_ne (fun z => hj z.symm)]
      exact r.val j c q
  · obtain ⟨q1, hj⟩ := nw j _ q trivial
    rw [List.getElem?_set_ne (fun z => hj z.symm)]
    exact r.own j ds q1
  · obtain ⟨q1, hj⟩ := nw j _ q trivial
    rw [List.getElem?_set_ne (fun z => hj z.symm)]
    exact r.dct j t kvs q1
theorem Rel.setNone (r : Rel K B G Z rt e σ H) (i : Nat) (v : Option V) : Rel K B G Z rt (e.set i none) (σ.set i v) H := by
  have nw : ∀ (j : Nat) (s : S), (e.set i (none : Option S))[j]? = some (some s) → e[j]? = some (some s) ∧ j ≠ i := fun j s q => by
    rcases set_get q with ⟨_, z, _⟩ | ⟨hj, q⟩
    · cases z
    · exact ⟨q, hj⟩
  refine ⟨by rw [List.length_set, List.length_set]; exact r.len, fun j c q => ?_, fun j ds q => ?_, fun j t kvs q => ?_, fun j k s u q1 q2 h1 h2 => r.injs j k s u (nw j s q1).1 (nw k u q2).1 h1 h2, r.al, r.dj, r.nw, r.yg, fun j m os q => r.sto j m os (nw j _ q).1, fun k a z => ⟨(r.tks k a z).1, fun j s q hs => (r.tks k a z).2 j s (nw j s q).1 hs⟩, r.tki, fun j k s u q1 q2 h1 h2 => r.stu j k s u (nw j s q1).1 (nw k u q2).1 h1 h2⟩
  · obtain ⟨q1, hj⟩ := nw j _ q
    rw [List.getElem?_set_ne (fun z => hj z.symm)]
    exact r.val j c q1
  · obtain ⟨q1, hj⟩ := nw j _ q
    rw [List.getElem?_set_ne (fun z => hj z.symm)]
    exact r.own j ds q1
  · obtain ⟨q1, hj⟩ := nw j _ q
    rw [List.getElem?_set_ne (fun z => hj z.symm)]
    exact r.dct j t kvs q1
theorem Rel.setBoth (r : Rel K B G Z rt e σ H) (i : Nat) (d0 : D) (os0 : List O) (v : Option V) : Rel K B G Z rt (e.set i (some (.both d0 os0))) (σ.set i v) H := by
  have nw : ∀ (j : Nat) (s : S), (e.set i (some (.both d0 os0)))[j]? = some (some s) → (∀ d os, s ≠ .both d os) → e[j]? = some (some s) ∧ j ≠ i := fun j s q hs => by
    rcases set_get q with ⟨_, z, _⟩ | ⟨hj, q⟩
    · cases z; exact absurd rfl (hs _ _)
    · exact ⟨q, hj⟩
  have nr : ∀ {s : S}, s.rooted → ∀ d os, s ≠ .both d os := fun h d os z => by subst z; exact h.elim
  have ns : ∀ {s : S}, isSto s = true → ∀ d os, s ≠ .both d os := fun h d os z => by subst z; cases h
  refine ⟨by rw [List.length_set, List.length_set]; exact r.len, fun j c q => ?_, fun j ds q => ?_, fun j t kvs q => ?_, fun j k s u q1 q2 h1 h2 => r.injs j k s u (nw j s q1 (nr h1)).1 (nw k u q2 (nr h2)).1 h1 h2, r.al, r.dj, r.nw, r.yg, fun j m os q => r.sto j m os (nw j _ q (fun _ _ z => nomatch z)).1, fun k a z => ⟨(r.tks k a z).1, fun j s q hs => (r.tks k a z).2 j s (nw j s q (nr hs)).1 hs⟩, r.tki, fun j k s u q1 q2 h1 h2 => r.stu j k s u (nw j s q1 (ns h1)).1 (nw k u q2 (ns h2)).1 h1 h2⟩
  · obtain ⟨q1, hj⟩ := nw j _ q (fun _ _ z => nomatch z)
    rw [List.getElem?_set_ne (fun z => hj z.symm)]
    exact r.val j c q1
  · obtain ⟨q1, hj⟩ := nw j _ q (fun _ _ z => nomatch z)
    rw [List.getElem?_set_ne (fun z => hj z.symm)]
    exact r.own j ds q1
  · obtain ⟨q1, hj⟩ := nw j _ q (fun _ _ z => nomatch z)
    rw [List.getElem?_set_ne (fun z => hj z.symm)]
    exact r.dct j t kvs q1
/-- a slot gets a root of its own -/
theorem Rel.setRoot (r : Rel K B G Z rt e σ H) (i : Nat) {s : S} (hs : s.rooted) {q : Addr} (hb : B q) (hz : ∀ p, ¬ Z p q)
    (ho : ∀ ds, s = .own ds → ∃ xs, H q = some (.lst xs) ∧ RepL K (Z (G i)) H ds xs) (hd : ∀ t kvs, s = .dct t kvs → ∃ o, H q = some o ∧ DOb K H t kvs q o)
    (hne : ∀ j u, j ≠ i → e[j]? = some (some u) → u.rooted → rt j ≠ q) (htk : ∀ k, T.tk k ≠ some q) :
    Rel K B G Z (fun j => if j = i then q else rt j) (e.set i (some s)) (σ.set i (some (.ref q))) H := by
  have sv : ∀ {j : Nat} {u : S}, (e.set i (some s))[j]? = some (some u) → isSto u = true → e[j]? = some (some u) := fun {j u} q hu => by
    rcases set_get q with ⟨_, z, _⟩ | ⟨hj, q⟩
    · cases z
      cases s <;> first | exact hs.elim | cases hu
    · exact q
  refine ⟨by rw [List.length_set, List.length_set]; exact r.len, fun j c k => ?_, fun j es k => ?_, fun j t kvs k => ?_, fun j k u w k1 k2 h1 h2 ek => ?_, r.al, r.dj, r.nw, r.yg, fun j m os q => r.sto j m os (sv q rfl), fun k a z => ⟨(r.tks k a z).1, fun j u q1 hu => ?_⟩, r.tki, fun j k s u q1 q2 h1 h2 => r.stu j k s u (sv q1 h1) (sv q2 h2) h1 h2⟩
  · rcases set_get k with ⟨_, z, _⟩ | ⟨hj, k⟩
    · cases z; exact hs.elim
    · rw [List.getElem?_set_ne (fun z => hj z.symm)]
      exact r.val j c k
  · rcases set_get k with ⟨hj, z, hl⟩ | ⟨hj, k⟩
    · subst hj
      cases z
      obtain ⟨xs, hq, h⟩ := ho _ rfl
      rw [if_pos rfl, List.getElem?_set_self (by rw [← r.len]; exact hl)]
      exact ⟨rfl, hb, hz, xs, hq, h⟩
    · rw [if_neg hj, List.getElem?_set_ne (fun z => hj z.symm)]
      exact r.own j es k
  · rcases set_get k with ⟨hj, z, hl⟩ | ⟨hj, k⟩
    · subst hj
      cases z
      obtain ⟨o, hq, h⟩ := hd _ _ rfl
      rw [if_pos rfl, List.getElem?_set_self (by rw [← r.len]; exact hl)]
      exact ⟨rfl, hb, hz, o, hq, h⟩
    · rw [if_neg hj, List.getElem?_set_ne (fun z => hj z.symm)]
      exact r.dct j t kvs k
  · have ek' : (if j = i then q else rt j) = (if k = i then q else rt k) := ek
    rcases set_get k1 with ⟨hj, _, _⟩ | ⟨hj, k1⟩
    · rcases set_get k2 with ⟨hk, _, _⟩ | ⟨hk, k2⟩
      · rw [hj, hk]
      · rw [if_pos hj, if_neg hk] at ek'
        exact absurd ek'.symm (hne k w hk k2 h2)
    · rcases set_get k2 with ⟨hk, _, _⟩ | ⟨hk, k2⟩
      · rw [if_neg hj, if_pos hk] at ek'
        exact absurd ek' (hne j u hj k1 h1)
      · rw [if_neg hj, if_neg hk] at ek'
        exact r.injs j k u w k1 k2 h1 h2 ek'
  · show (if j = i then q else rt j) ≠ a
    rcases set_get q1 with ⟨hj, _, _⟩ | ⟨hj, q1⟩
    · rw [if_pos hj]
      exact fun e => htk k (e ▸ z)
    · rw [if_neg hj]
      exact (r.tks k a z).2 j u q1 hu
theorem Rel.setOwn (r : Rel K B G Z rt e σ H) (i : Nat) {ds : List D} {q : Addr} {xs : List V} (hb : B q) (hz : ∀ p, ¬ Z p q) (hq : H q = some (.lst xs)) (h : RepL K (Z (G i)) H ds xs) (hne : ∀ j u, j ≠ i → e[j]? = some (some u) → u.rooted → rt j ≠ q) (htk : ∀ k, T.tk k ≠ some q) :
    Rel K B G Z (fun j => if j = i then q else rt j) (e.set i (some (.own ds))) (σ.set i (some (.ref q))) H :=
  r.setRoot i (s := .own ds) trivial hb hz (fun es e => by cases e; exact ⟨xs, hq, h⟩) (fun t kvs e => nomatch e) hne htk
theorem Rel.live (r : Rel K B G Z rt e σ H) {j : Nat} {u : S} (h : e[j]? = some (some u)) (hr : u.rooted) : H (rt j) ≠ none ∧ (∀ p, ¬ Z p (rt j)) ∧ B (rt j) := by
  cases u with
  | val d => exact hr.elim
  | own ds =>
    obtain ⟨_, b, z, ys, k2, _⟩ := r.own j ds h
    exact ⟨by rw [k2]; exact nofun, z, b⟩
  | dct t kvs =>
    obtain ⟨_, b, z, o, k2, _⟩ := r.dct j t kvs h
    exact ⟨by rw [k2]; exact nofun, z, b⟩
  | sto _ _ => exact hr.elim
  | both _ _ => exact hr.elim
/-- what stands at the root of a slot is written -/
theorem Rel.writeRoot (r : Rel K B G Z rt e σ H) {i : Nat} {s0 s : S} {o : HO} (hi : e[i]? = some (some s0)) (h0 : s0.rooted) (hs : s.rooted) (st : Still H (upd H (rt i) o))
    (ho : ∀ ds, s = .own ds → ∃ xs, o = .lst xs ∧ RepL K (Z (G i)) H ds xs) (hd : ∀ t kvs, s = .dct t kvs → DOb K H t kvs (rt i) o) (hσ : σ[i]? = some (some (.ref (rt i)))) : Rel K B G Z rt (e.set i (some s)) σ (upd H (rt i) o) := by
  have lv := r.live hi h0
  have ne : ∀ p a, Z p a → a ≠ rt i := fun p a z q => lv.2.1 p (q ▸ z)
  have up : ∀ {p : Nat} {d : D} {v : V}, Rep K (Z p) H d v → Rep K (Z p) (upd H (rt i) o) d v := fun {p d v} q => Rep.imp (fun a ys z k => ⟨z, by rw [upd_ne (ne p a z)]; exact k⟩) st d v q
  have upL : ∀ {p : Nat} {es : List D} {vs : List V}, RepL K (Z p) H es vs → RepL K (Z p) (upd H (rt i) o) es vs := fun {p es vs} q => RepL.imp (fun a ys z k => ⟨z, by rw [upd_ne (ne p a z)]; exact k⟩) st es vs q
  have hb := lv.2.2
  have tn : ∀ {k : Nat} {a : Addr}, T.tk k = some a → rt i ≠ a := fun {k a} z => (r.tks k a z).2 i s0 hi h0
  have sv : ∀ {j : Nat} {u : S}, (e.set i (some s))[j]? = some (some u) → isSto u = true → e[j]? = some (some u) := fun {j u} q hu => by
    rcases set_get q with ⟨_, z, _⟩ | ⟨hj, q⟩
    · cases z
      cases s <;> first | exact hs.elim | cases hu
    · exact q
  have bk : ∀ (m : Nat) (u : S), (e.set i (some s))[m]? = some (some u) → u.rooted → ∃ u', e[m]? = some (some u') ∧ u'.rooted := fun m u q hu => by
    rcases set_get q with ⟨hm, _, _⟩ | ⟨_, q⟩
    · exact ⟨s0, by rw [hm]; exact hi, h0⟩
    · exact ⟨u, q, hu⟩
  have ot : ∀ (j : Nat) (u : S), j ≠ i → e[j]? = some (some u) → u.rooted → rt j ≠ rt i := fun j u hj q hu z => hj (r.injs j i u s0 q hi hu h0 z)
  refine ⟨by rw [List.length_set]; exact r.len, fun j c k => ?_, fun j es k => ?_, fun j t kvs k => ?_, fun j k u w k1 k2 h1 h2 ek => ?_, fun p a z => by rw [upd_ne (ne p a z)]; exact r.al p a z, r.dj, r.nw, fun a h => ?_, fun j m os q => ?_, fun k a z => ⟨?_, fun j u q hu => ?_⟩, r.tki, fun j k s u q1 q2 h1 h2 => r.stu j k s u (sv q1 h1) (sv q2 h2) h1 h2⟩
  · rcases set_get k with ⟨_, z, _⟩ | ⟨hj, k⟩
    · cases z; exact hs.elim
    · obtain ⟨v, k1, k2⟩ := r.val j c k
      exact ⟨v, k1, up k2⟩
  · rcases set_get k with ⟨hj, z, hl⟩ | ⟨hj, k⟩
    · subst hj
      cases z
      obtain ⟨xs, ox, h⟩ := ho _ rfl
      subst ox
      exact ⟨hσ, hb, lv.2.1, xs, upd_same, upL h⟩
    · obtain ⟨k1, k2, k3, ys, k4, k5⟩ := r.own j es k
      exact ⟨k1, k2, k3, ys, by rw [upd_ne (ot j _ hj k trivial)]; exact k4, upL k5⟩
  · rcases set_get k with ⟨hj, z, hl⟩ | ⟨hj, k⟩
    · subst hj
      cases z
      exact ⟨hσ, hb, lv.2.1, o, upd_same, (hd _ _ rfl).still st⟩
    · obtain ⟨k1, k2, k3, u, k4, k5⟩ := r.dct j t kvs k
      exact ⟨k1, k2, k3, u, by rw [upd_ne (ot j _ hj k trivial)]; exact k4, k5.still st⟩
  · obtain ⟨u', z1, g1⟩ := bk j u k1 h1
    obtain ⟨w', z2, g2⟩ := bk k w k2 h2
    exact r.injs j k _ _ z1 z2 g1 g2 ek
  · refine r.yg a ?_
    by_cases ha : a = rt i
    · subst ha
      rw [upd_same] at h
      cases h
    · rw [upd_ne ha] at h
      exact h
  · obtain ⟨h1, h2⟩ := r.sto j m os (sv q rfl)
    exact ⟨h1.imp (fun d v => up) (fun es vs => upL) (fun k a u z q => by rw [upd_ne (fun e => tn z e.symm)]; exact q), h2⟩
  · rw [upd_ne (fun e => tn z e.symm)]
    exact (r.tks k a z).1
  · obtain ⟨u', q1, q2⟩ := bk j u q hu
    exact (r.tks k a z).2 j u' q1 q2
/-- the list that slot i owns is written -/
theorem Rel.write (r : Rel K B G Z rt e σ H) {i : Nat} {ds ds' : List D} {xs' : List V} (hi : e[i]? = some (some (.own ds))) (h : RepL K (Z (G i)) H ds' xs') : Rel K B G Z rt (e.set i (some (.own ds'))) σ (upd H (rt i) (.lst xs')) := by
  obtain ⟨h1, h2, h3, xs, h4, h5⟩ := r.own i ds hi
  exact r.writeRoot hi trivial (s := .own ds') trivial (still_lst h4) (fun es e => by cases e; exact ⟨xs', rfl, h⟩) (fun t kvs e => nomatch e) h1
theorem Rel.wipe (r : Rel K B G Z rt e σ H) : ∀ vs : List Nat, Rel K B G Z rt (wipeE e vs) (L2.wipe σ vs) H
  | [] => r
  | v :: vs => (Rel.wipe r vs).setNone v none
theorem zn_sub {p : Nat} {l : List Nat} (hl : ∀ j ∈ l, G j = p) {x : Addr → Prop} {a : Addr} (n : NZ G Z e rt l H a) (hx : ¬ x a) (h1 : H1 a ≠ none) : ZN p Z e rt l H H1 x p a := by
  rcases n with ⟨i, hi, n⟩ | n | n
  · rw [hl i hi] at n; exact .inl n
  · exact .inr ⟨rfl, .inl ⟨n, h1, hx⟩⟩
  · exact .inr ⟨rfl, .inr n⟩
/-- a reckoned value is put into a slot -/
theorem Rel.put (r : Rel K B G Z rt e σ H) (s : Same H H1) {l : List Nat} {v : S} {x : V} (h : RepS K (NZ G Z e rt l H) H H1 v x) (i : Nat) (hl : ∀ j ∈ l, G j = G i) :
    ∃ Z' rt', (∀ p a, Z p a → Z' p a) ∧ (∀ p a, Z' p a → Z p a ∨ B a) ∧ Rel K B G Z' rt' ((keep l v.flat e).set i (some v)) (σ.set i (some x)) H1 := by
  have zb : ∀ (x : Addr → Prop) (p : Nat) (a : Addr), ZN (G i) Z e rt l H H1 x p a → Z p a ∨ B a := fun x p a z => by
    rcases z with z | ⟨_, ⟨z, _⟩ | z⟩
    · exact .inl z
    · exact .inr (r.yg a z)
    · exact .inr (r.root z).1
  cases v with
  | dct t kvs => exact h.elim
  | sto _ _ => exact h.elim
  | both d os => exact ⟨ZN (G i) Z e rt l H H1 (fun _ => False), rt, fun p a z => .inl z, zb _, (r.grow s (G i) l hl _).setBoth i d os _⟩
  | val d =>
    have h : Rep K (NZ G Z e rt l H) H1 d x := h
    show ∃ Z' rt', _ ∧ _ ∧ Rel K B G Z' rt' ((keep l d.flat e).set i (some (.val d))) _ H1
    cases f : d.flat with
    | true => exact ⟨Z, rt, fun p a z => z, fun p a z => .inl z, (r.ext s).setVal i (Rep.flat (Still.refl H1) d x f h)⟩
    | false =>
      refine ⟨ZN (G i) Z e rt l H H1 (fun _ => False), rt, fun p a z => .inl z, zb _, (r.grow s (G i) l hl _).setVal i ?_⟩
      exact Rep.imp (fun a xs n k => ⟨zn_sub hl n (fun z => z) (by rw [k]; exact nofun), k⟩) (Still.refl H1) d x h
  | own ds =>
    obtain ⟨q, xs, rfl, hq, hq1, h⟩ := h
    have nq : ∀ p, ¬ Z p q := fun p z => r.al p q z hq
    have tq : ∀ k, T.tk k ≠ some q := fun k z => (r.tks k q z).1 hq
    have ne : ∀ (l : List Nat) j u, j ≠ i → (freeze l e)[j]? = some (some u) → u.rooted → rt j ≠ q := fun l j u _ k hu z => (r.live (freeze_rooted k hu) hu).1 (by rw [z]; exact hq)
    show ∃ Z' rt', _ ∧ _ ∧ Rel K B G Z' rt' ((keep l (D.flatL ds) e).set i (some (.own ds))) _ H1
    cases f : D.flatL ds with
    | true =>
      exact ⟨Z, _, fun p a z => z, fun p a z => .inl z, (r.ext s).setOwn i (r.yg q hq) nq hq1 (RepL.flat (Still.refl H1) ds xs f h) (ne []) tq⟩
    | false =>
      refine ⟨ZN (G i) Z e rt l H H1 (fun a => a = q), _, fun p a z => .inl z, zb _, (r.grow s (G i) l hl _).setOwn i (r.yg q hq) (fun p z => ?_) hq1 (RepL.imp (fun a ys n k => ⟨zn_sub hl n.1 n.2 (by rw [k]; exact nofun), k⟩) (Still.refl H1) ds xs h) (ne l) tq⟩
      rcases z with z | ⟨_, ⟨_, _, z⟩ | z⟩
      · exact nq p z
      · exact z rfl
      · obtain ⟨_, ys, k⟩ := r.root z
        rw [hq] at k; cases k
/-- a reckoned value is kept somewhere in the group p -/
theorem Rel.hold (r : Rel K B G Z rt e σ H) (s : Same H H1) {l : List Nat} {v : S} {x : V} (h : RepS K (NZ G Z e rt l H) H H1 v x) (p : Nat) (hl : ∀ j ∈ l, G j = p) :
    ∃ Z', (∀ p a, Z p a → Z' p a) ∧ (∀ p a, Z' p a → Z p a ∨ B a) ∧ Rel K B G Z' rt (keep l v.flat e) σ H1 ∧ Rep K (Z' p) H1 v.d x := by
  have zb : ∀ (l : List Nat) (q : Nat) (a : Addr), ZN p Z e rt l H H1 (fun _ => False) q a → Z q a ∨ B a := fun l q a z => by
    rcases z with z | ⟨_, ⟨z, _⟩ | z⟩
    · exact .inl z
    · exact .inr (r.yg a z)
    · exact .inr (r.root z).1
  cases v with
  | dct t kvs => exact h.elim
  | sto _ _ => exact h.elim
  | both d os => exact ⟨ZN p Z e rt l H H1 (fun _ => False), fun p a z => .inl z, zb l, r.grow s p l hl _, Rep.imp (fun a xs n k => ⟨zn_sub hl n.1 (fun z => z) (by rw [k]; exact nofun), k⟩) (Still.refl H1) d x h.1⟩
  | val d =>
    have h : Rep K (NZ G Z e rt l H) H1 d x := h
    show ∃ Z', _ ∧ _ ∧ Rel K B G Z' rt (keep l d.flat e) _ H1 ∧ _
    cases f : d.flat with
    | true => exact ⟨Z, fun p a z => z, fun p a z => .inl z, r.ext s, Rep.flat (Still.refl H1) d x f h⟩
    | false =>
      refine ⟨ZN p Z e rt l H H1 (fun _ => False), fun p a z => .inl z, zb l, r.grow s p l hl _, ?_⟩
      exact Rep.imp (fun a xs n k => ⟨zn_sub hl n (fun z => z) (by rw [k]; exact nofun), k⟩) (Still.refl H1) d x h
  | own ds =>
    obtain ⟨q, xs, rfl, hq, hq1, h⟩ := h
    show ∃ Z', _ ∧ _ ∧ Rel K B G Z' rt (keep l (D.flatL ds) e) _ H1 ∧ _
    cases f : D.flatL ds with
    | false =>
      refine ⟨ZN p Z e rt l H H1 (fun _ => False), fun p a z => .inl z, zb l, r.grow s p l hl _, ?_⟩
      exact ⟨q, xs, rfl, ⟨.inr ⟨rfl, .inl ⟨hq, (by rw [hq1]; exact nofun), fun z => z⟩⟩, hq1⟩, RepL.imp (fun a ys n k => ⟨zn_sub hl n.1 (fun z => z) (by rw [k]; exact nofun), k⟩) (Still.refl H1) ds xs h⟩
    | true =>
      -- the slots in l go on owning; the new list's node is kept
      exact ⟨ZN p Z e rt [] H H1 (fun _ => False), fun p a z => .inl z, zb [], r.grow s p [] (fun j hj => nomatch hj) _, q, xs, rfl, ⟨.inr ⟨rfl, .inl ⟨hq, (by rw [hq1]; exact nofun), fun z => z⟩⟩, hq1⟩, RepL.flat (Still.refl H1) ds xs f h⟩
end
end Tg

/-! Tg, part 10: what is walked, targets, comprehensions. -/
namespace Tg
open PySem PySem.Spec PyProof.Rows L2

/-- the nodes of N, the tuples, the script stand as they stood -/
def Kp (N : Addr → Prop) (H H' : Hp) : Prop := (∀ a xs, N a → H a = some (.lst xs) → H' a = some (.lst xs)) ∧ Still H H'
theorem same_kp {N : Addr → Prop} {H H' : Hp} (s : Same H H') : Kp N H H' := ⟨fun a xs _ h => s _ _ h, Same.still s⟩
theorem Kp.refl (N : Addr → Prop) (H : Hp) : Kp N H H := same_kp (Same.refl H)
theorem Kp.trans {N : Addr → Prop} {H H1 H2 : Hp} (a : Kp N H H1) (b : Kp N H1 H2) : Kp N H H2 := ⟨fun c xs n h => b.1 c xs n (a.1 c xs n h), a.2.trans b.2⟩
theorem Rep.kp {T : Tkn} {K : PySem.W.Frag} {N : Addr → Prop} {H H' : Hp} (k : Kp N H H') {d : D} {x : V} (h : Rep K N H d x) : Rep K N H' d x := Rep.imp (fun a xs n q => ⟨n, k.1 a xs n q⟩) k.2 d x h
theorem RepL.kp {T : Tkn} {K : PySem.W.Frag} {N : Addr → Prop} {H H' : Hp} (k : Kp N H H') {d : List D} {x : List V} (h : RepL K N H d x) : RepL K N H' d x := RepL.imp (fun a xs n q => ⟨n, k.1 a xs n q⟩) k.2 d x h

/-- J walks the data ds, whose nodes are of N -/
structure ItRep [T : Tkn] (K : PySem.W.Frag) (N : Addr → Prop) (H : Hp) (ds : List D) (J : It) : Prop where
  go : ∀ i H2, Kp N H H2 → i < ds.length → J.go i H2
  yld : ∀ (i : Nat) H2 x H3 d, Kp N H H2 → ds[i]? = some d → J.yld i H2 x H3 → Same H2 H3 ∧ Rep K N H3 d x
  stop : ∀ i H2, Kp N H H2 → ds.length ≤ i → i ≤ ds.length → J.stop i H2
/-- a walk's reading -/
def tI (K : PySem.W.Frag) (W : Wi) (m : Ax) (l : List Nat) : TI := fun σ H R => ∃ (T : Tkn) (B : Addr → Prop) (Z : Nat → Addr → Prop) (rt : Nat → Addr) (e : En), Rel K B W.g Z rt e σ H ∧
  match m e with
  | .ok ds => ∀ J H', Same H H' → ItRep K (fun a => NZ W.g Z e rt l H a ∧ H' a ≠ none) H' ds J → R J H'
  | .ex d => ∀ c o H', Same H H' → (XC W.xr H d c o H' → W.w c o σ H')
  | .bad => False
abbrev SI (X : Cx) (W : Wi) (tg x : Expr) (m : Ax) (l : List Nat) : Prop := PI X tg x (tI X.K W m l)
theorem PI.imp {X : Cx} {tg x : Expr} {t t' : TI} (h : PI X tg x t) (f : ∀ σ H R, t' σ H R → t σ H R) : PI X tg x t' := ⟨fun pins s σ H R I q => h.run pins s σ H R I (f σ H R q)⟩
theorem pi_or {X : Cx} {tg x : Expr} {t t' : TI} (h : PI X tg x t) (h' : PI X tg x t') : PI X tg x (fun σ H R => t σ H R ∨ t' σ H R) := ⟨fun pins s σ H R I q => q.elim (h.run pins s σ H R I) (h'.run pins s σ H R I)⟩

section
variable {X : Cx} {W : Wi} {tg a b : Expr} {m n : Ex} {l k : List Nat} {pos : Pos}
theorem it_list {T : Tkn} {K : PySem.W.Frag} {N : Addr → Prop} {H : Hp} {ds : List D} {q : Addr} {xs : List V} (hn : N q) (hq : H q = some (.lst xs)) (r : RepL K N H ds xs) : ItRep K N H ds (Itl K q) := by
  have at_ : ∀ {H2 : Hp}, Kp N H H2 → SqL K H2 q xs := fun k => .inl (.inl (k.1 _ _ hn hq))
  refine ⟨fun i H2 k hi => ?_, fun i H2 x H3 d k hd ⟨e, y⟩ => ?_, fun i H2 k hi _ => ⟨xs, at_ k, by rw [r.length]; exact hi⟩⟩
  · have h' : i < xs.length := by rw [r.length]; exact hi
    exact ⟨xs, xs[i], at_ k, List.getElem?_eq_getElem h'⟩
  · subst e
    obtain ⟨v, h1, h2⟩ := r.get hd
    have e2 := (y xs (at_ k)).symm.trans h1
    cases e2
    exact ⟨Same.refl _, h2.kp k⟩
theorem it_tup {T : Tkn} {K : PySem.W.Frag} {N : Addr → Prop} {H : Hp} {ds : List D} {q : Addr} {xs : List V} (hq : H q = some (.tup xs)) (r : RepL K N H ds xs) : ItRep K N H ds (Itt K q) := by
  have at_ : ∀ {H2 : Hp}, Kp N H H2 → SqT K H2 q xs := fun k => sqt (k.2.rd hq)
  refine ⟨fun i H2 k hi => ?_, fun i H2 x H3 d k hd ⟨e, y⟩ => ?_, fun i H2 k hi _ => ⟨xs, at_ k, by rw [r.length]; exact hi⟩⟩
  · have h' : i < xs.length := by rw [r.length]; exact hi
    exact ⟨xs, xs[i], at_ k, List.getElem?_eq_getElem h'⟩
  · subst e
    obtain ⟨v, h1, h2⟩ := r.get hd
    have e2 := (y xs (at_ k)).symm.trans h1
    cases e2
    exact ⟨Same.refl _, h2.kp k⟩
theorem it_str {T : Tkn} {K : PySem.W.Frag} {N : Addr → Prop} {H : Hp} (s : List Nat) : ItRep K N H (s.map fun c => D.str [c]) (Its ⟨s.toArray⟩) := by
  have sz : (⟨s.toArray⟩ : Str).cps.size = s.length := by show s.toArray.size = _; simp
  refine ⟨fun i H2 _ hi => ?_, fun i H2 x H3 d _ hd ⟨e, c, hc, ex⟩ => ?_, fun i H2 _ hi => ?_⟩
  · show i < (⟨s.toArray⟩ : Str).cps.size
    rw [sz]
    simpa using hi
  · subst e ex
    have e1 : s[i]? = some c := by
      have : s.toArray[i]? = some c := hc
      simpa using this
    rw [List.getElem?_map, e1] at hd
    cases hd
    exact ⟨Same.refl _, rfl⟩
  · intro _
    show (⟨s.toArray⟩ : Str).cps.size ≤ i
    rw [sz]
    simpa using hi
theorem rangeL_len (i j : Int) : (rangeL i j).length = (j - i).toNat := by
  unfold rangeL
  rw [List.length_map, List.length_range]
theorem it_range {T : Tkn} {K : PySem.W.Frag} {N : Addr → Prop} {H : Hp} (i j : Int) : ItRep K N H (rangeL i j) (Itr i (j - i).toNat) := by
  refine ⟨fun k H2 _ hi => ?_, fun k H2 x H3 d _ hd ⟨e, ex⟩ => ?_, fun k H2 _ hi => ?_⟩
  · rw [rangeL_len] at hi
    exact hi
  · subst e ex
    unfold rangeL at hd
    rw [List.getElem?_map] at hd
    cases q : (List.range (j - i).toNat)[k]? with
    | none => rw [q] at hd; cases hd
    | some z =>
      rw [q] at hd
      have hz := List.getElem?_eq_some_iff.mp q
      obtain ⟨h1, h2⟩ := hz
      rw [List.getElem_range] at h2
      subst h2
      cases hd
      exact ⟨Same.refl _, rfl⟩
  · rw [rangeL_len] at hi
    exact fun _ => hi
/-- a list, a tuple, a text -/
def aIter (a : Ex) : Ax := fun e => (a e).bind fun s => match s.d with
  | .lst ds => .ok ds
  | .tup ds => .ok ds
  | .str cs => .ok (cs.map fun c => D.str [c])
  | _ => .bad
theorem i_seq (ha : SE X W a m l) : SI X W tg a (aIter m) l := by
  refine PI.imp (pi_or (pi_list ha) (pi_or (pi_tup ha) (pi_str ha))) fun σ H R0 ⟨T, B, Z, rt, e, r, q⟩ => ?_
  unfold aIter at q
  cases hm : m e with
  | bad => rw [hm] at q; exact q.elim
  | ex d =>
    rw [hm] at q
    exact .inl (tE_go r (fun d' hd => by rw [hm] at hd; cases hd; exact q) (fun hd => by rw [hm] at hd; cases hd) fun s x H1 hs => by rw [hm] at hs; cases hs)
  | ok s =>
    rw [hm, R.bind_ok] at q
    cases hd : s.d with
    | lst ds =>
      simp only [hd] at q
      refine .inl (tE_go r (fun d' hd => by rw [hm] at hd; cases hd) (fun hd => by rw [hm] at hd; cases hd) fun s' x H1 hs sm r1 rs => ?_)
      rw [hm] at hs
      cases hs
      have rd := rs.d (N := NZ W.g Z e rt l H) fun a z => .inr (.inl z)
      rw [hd] at rd
      obtain ⟨q1, xs, rfl, ⟨hn, hq⟩, rr⟩ := rd
      refine ⟨q1, rfl, ⟨xs, .inl (.inl hq)⟩, q _ H1 sm (it_list ⟨hn, by rw [hq]; exact nofun⟩ hq (RepL.imp (fun a ys n z => ⟨⟨n, by rw [z]; exact nofun⟩, z⟩) (Still.refl _) _ _ rr))⟩
    | tup ds =>
      simp only [hd] at q
      refine .inr (.inl (tE_go r (fun d' hd => by rw [hm] at hd; cases hd) (fun hd => by rw [hm] at hd; cases hd) fun s' x H1 hs sm r1 rs => ?_))
      rw [hm] at hs
      cases hs
      have rd := rs.d (N := NZ W.g Z e rt l H) fun a z => .inr (.inl z)
      rw [hd] at rd
      obtain ⟨q1, xs, rfl, hq, rr⟩ := rd
      refine ⟨q1, rfl, ⟨xs, sqt hq⟩, q _ H1 sm (it_tup hq (RepL.imp (fun a ys n z => ⟨⟨n, by rw [z]; exact nofun⟩, z⟩) (Still.refl _) _ _ rr))⟩
    | str cs =>
      simp only [hd] at q
      refine .inr (.inr (tE_go r (fun d' hd => by rw [hm] at hd; cases hd) (fun hd => by rw [hm] at hd; cases hd) fun s' x H1 hs sm r1 rs => ?_))
      rw [hm] at hs
      cases hs
      have rd := rs.d (N := NZ W.g Z e rt l H) fun a z => .inr (.inl z)
      rw [hd] at rd
      obtain rfl : x = .str ⟨cs.toArray⟩ := rd
      exact ⟨_, rfl, q _ H1 sm (it_str cs)⟩
    | non => simp only [hd] at q
    | bl _ => simp only [hd] at q
    | int _ => simp only [hd] at q
    | scr _ => simp only [hd] at q
    | exc _ _ => simp only [hd] at q
    | jnk => simp only [hd] at q
    | opq _ => simp only [hd] at q
theorem int_of {T : Tkn} {K : PySem.W.Frag} {N : Addr → Prop} {H H' : Hp} {s : S} {x : V} {i : Int} (rs : RepS K N H H' s x) (h : s.d = .int i) : x = .int i := by
  cases s with
  | val d =>
    have h' : d = .int i := h
    subst h'
    exact rs
  | own ds => cases h
  | dct _ _ => cases h
  | sto _ _ => cases h
  | both d os =>
    have h' : d = .int i := h
    subst h'
    exact rs.1
theorem i_range1 {p : Pos} (hm : X.mg "range" = none) (ha : SE X W a m l) (hg : Gl X "range" := by rfl) (he : starEach [a] X.env = (false, eval a X.env) :: starEach [] X.env := by rfl) (hs : starEach [a] X.env = [(false, eval a X.env)] := by rfl) : SI X W tg (.Call (.Name "range" p) [a] [] pos) (aRange1 m) [] := by
  refine PI.imp (pi_range1 hg hm (pa_cons ha pa_nil he) hs) fun σ H R0 ⟨T, B, Z, rt, e, r, q⟩ => ?_
  unfold aRange1 at q
  refine tE_go r (fun d hd => by rw [hd] at q; exact q) (fun hd => by rw [hd] at q; exact q) fun s x H1 hs sm r1 rs => ?_
  rw [hs, R.bind_ok] at q
  cases hd : s.d with
  | int j =>
    simp only [hd] at q
    obtain rfl := int_of rs hd
    by_cases hb : -1000000 ≤ j ∧ j ≤ 1000000
    · rw [if_pos hb] at q
      refine ⟨j, rfl, by omega, by omega, ?_⟩
      have e2 : (j - 0).toNat = j.toNat := by rw [Int.sub_zero]
      have := q (Itr 0 (j - 0).toNat) H1 sm (it_range 0 j)
      rw [e2] at this
      exact this
    · rw [if_neg hb] at q
      exact q.elim
  | non => simp only [hd] at q
  | bl _ => simp only [hd] at q
  | str _ => simp only [hd] at q
  | tup _ => simp only [hd] at q
  | lst _ => simp only [hd] at q
  | scr _ => simp only [hd] at q
  | exc _ _ => simp only [hd] at q
  | jnk => simp only [hd] at q
  | opq _ => simp only [hd] at q
theorem i_range2 {p : Pos} (hm : X.mg "range" = none) (ha : SE X W a m l) (hb : SE X W b n k) (hg : Gl X "range" := by rfl) (he : starEach [a, b] X.env = (false, eval a X.env) :: starEach [b] X.env := by rfl) (he2 : starEach [b] X.env = (false, eval b X.env) :: starEach [] X.env := by rfl)
    (hs : starEach [a, b] X.env = [(false, eval a X.env), (false, eval b X.env)] := by rfl) (hs2 : starEach [b] X.env = [(false, eval b X.env)] := by rfl) : SI X W tg (.Call (.Name "range" p) [a, b] [] pos) (aRange m n) [] := by
  refine PI.imp (pi_range2 hg hm (pa_cons ha (pa_cons hb pa_nil he2) he) hs hs2) fun σ H R0 ⟨T, B, Z, rt, e, r, q⟩ => ?_
  unfold aRange at q
  refine tE_go r (fun d hd => by rw [hd] at q; exact q) (fun hd => by rw [hd] at q; exact q) fun s x H1 hs sm r1 rs => ?_
  rw [hs, R.bind_ok] at q
  refine tE_go r1 (fun d hd c o H' sm' => by rw [hd] at q; exact (fun z9 => q c o H' (sm.trans sm') (z9.mo sm))) (fun hd => by rw [hd] at q; exact q) fun s2 y H2 hs2 sm2 r2 rs2 => ?_
  rw [hs2, R.bind_ok] at q
  cases hd : s.d with
  | int i =>
    cases hd2 : s2.d with
    | int j =>
      simp only [hd, hd2] at q
      obtain rfl := int_of rs hd
      obtain rfl := int_of rs2 hd2
      by_cases hb : -1000000 ≤ i ∧ i ≤ 1000000 ∧ -1000000 ≤ j ∧ j ≤ 1000000
      · rw [if_pos hb] at q
        exact ⟨i, j, rfl, ⟨by omega, by omega, by omega, by omega⟩, q _ H2 (sm.trans sm2) (it_range i j)⟩
      · rw [if_neg hb] at q
        exact q.elim
    | non => simp only [hd, hd2] at q
    | bl _ => simp only [hd, hd2] at q
    | str _ => simp only [hd, hd2] at q
    | tup _ => simp only [hd, hd2] at q
    | lst _ => simp only [hd, hd2] at q
    | scr _ => simp only [hd, hd2] at q
    | exc _ _ => simp only [hd, hd2] at q
    | jnk => simp only [hd, hd2] at q
    | opq _ => simp only [hd, hd2] at q
  | non => simp only [hd] at q
  | bl _ => simp only [hd] at q
  | str _ => simp only [hd] at q
  | tup _ => simp only [hd] at q
  | lst _ => simp only [hd] at q
  | scr _ => simp only [hd] at q
  | exc _ _ => simp only [hd] at q
  | jnk => simp only [hd] at q
  | opq _ => simp only [hd] at q
end

/-! ### targets -/
/-- slots but those of ts are as they were -/
def Only (ts : List Nat) (σ σ' : L2.St) : Prop := σ'.length = σ.length ∧ ∀ i, i ∉ ts → σ'[i]? = σ[i]?
theorem Only.refl (ts : List Nat) (σ : L2.St) : Only ts σ σ := ⟨rfl, fun _ _ => rfl⟩
theorem Only.trans {ts us : List Nat} {σ σ1 σ2 : L2.St} (a : Only ts σ σ1) (b : Only us σ1 σ2) : Only (ts ++ us) σ σ2 := ⟨b.1.trans a.1, fun i h => (b.2 i fun z => h (List.mem_append_right _ z)).trans (a.2 i fun z => h (List.mem_append_left _ z))⟩
theorem wipe_get {σ : L2.St} {i : Nat} : ∀ {vs : List Nat}, (L2.wipe σ vs)[i]? = if i ∈ vs then (if i < σ.length then some none else none) else σ[i]?
  | [] => by
    rw [if_neg (fun z => nomatch z)]
    rfl
  | v :: vs => by
    unfold L2.wipe
    rw [List.getElem?_set]
    by_cases h : v = i
    · subst h
      rw [if_pos rfl, if_pos List.mem_cons_self, wipe_length]
    · rw [if_neg h, wipe_get (vs := vs)]
      by_cases h2 : i ∈ vs
      · rw [if_pos h2, if_pos (List.mem_cons_of_mem _ h2)]
      · rw [if_neg h2, if_neg fun z => (List.mem_cons.mp z).elim (fun q => h q.symm) h2]
theorem Only.wipe {ts vs : List Nat} {σ σ' : L2.St} (o : Only ts (L2.wipe σ vs) σ') (h : ∀ i ∈ ts, i ∈ vs) : L2.wipe σ' vs = L2.wipe σ vs := by
  refine List.ext_getElem? fun i => ?_
  have hl : σ'.length = σ.length := o.1.trans (wipe_length σ vs)
  rw [wipe_get, wipe_get, hl]
  by_cases hi : i ∈ vs
  · rw [if_pos hi, if_pos hi]
  · rw [if_neg hi, if_neg hi, o.2 i fun z => hi (h i z), wipe_get, if_neg hi]
def tG (K : PySem.W.Frag) (G : Nat → Nat) (p : Nat) (t : Tt) (ts : List Nat) : TG := fun v σ H Q => ∃ (T : Tkn) (B : Addr → Prop) (Z : Nat → Addr → Prop) (rt : Nat → Addr) (e : En) (d : D), Rel K B G Z rt e σ H ∧ Rep K (Z p) H d v ∧
  match t d e with
  | .ok e' => ∀ σ', Rel K B G Z rt e' σ' H → Only ts σ σ' → Q σ' H
  | _ => False
def tGs (K : PySem.W.Frag) (G : Nat → Nat) (p : Nat) (t : Tts) (ts : List Nat) : TGs := fun vs σ H Q => ∃ (T : Tkn) (B : Addr → Prop) (Z : Nat → Addr → Prop) (rt : Nat → Addr) (e : En) (ds : List D), Rel K B G Z rt e σ H ∧ RepL K (Z p) H ds vs ∧
  match t ds e with
  | .ok e' => ∀ σ', Rel K B G Z rt e' σ' H → Only ts σ σ' → Q σ' H
  | _ => False
/-- an owned slot behind the target's store was one ahead of it -/
def S.kp : S → Bool
  | .own _ => true
  | .sto _ _ => true
  | _ => false
def TKeep (t : Tt) : Prop := ∀ d e e', t d e = .ok e' → ∀ (i : Nat) (s : S), s.kp = true → e'[i]? = some (some s) → e[i]? = some (some s)
def TsKeep (t : Tts) : Prop := ∀ d e e', t d e = .ok e' → ∀ (i : Nat) (s : S), s.kp = true → e'[i]? = some (some s) → e[i]? = some (some s)
theorem k_name (i : Nat) : TKeep (gName i) := fun d e e' h j s hs q => by
  cases h
  by_cases hj : i = j
  · subst hj
    by_cases hl : i < e.length
    · rw [List.getElem?_set_self hl] at q; cases q; cases hs
    · rw [List.getElem?_eq_none (by rw [List.length_set]; omega)] at q; cases q
  · rw [List.getElem?_set_ne hj] at q
    exact q
theorem ks_nil : TsKeep gNil := fun d e e' h j s hs q => by
  cases d with
  | nil => cases h; exact q
  | cons _ _ => cases h
theorem ks_cons {t : Tt} {u : Tts} (h1 : TKeep t) (h2 : TsKeep u) : TsKeep (gCons t u) := fun d e e' h j s hs q => by
  cases d with
  | nil => cases h
  | cons c cr =>
    have h : (t c e).bind (fun e' => u cr e') = .ok e' := h
    cases h3 : t c e with
    | bad => rw [h3] at h; cases h
    | ex _ => rw [h3] at h; cases h
    | ok e1 =>
      rw [h3, R.bind_ok] at h
      exact h1 c e e1 h3 j s hs (h2 cr e1 e' h j s hs q)
theorem k_tup {t : Tts} {n : Nat} (h : TsKeep t) : TKeep (gTup n t) := fun d e e' h' j s hs q => by
  cases d <;> first | cases h' | skip
  rename_i es
  have h' : (if es.length = n then t es e else .bad) = .ok e' := h'
  by_cases hl : es.length = n
  · rw [if_pos hl] at h'
    exact h es e e' h' j s hs q
  · rw [if_neg hl] at h'
    cases h'
structure SG (X : Cx) (G : Nat → Nat) (p : Nat) (tg : Expr) (t : Tt) (ts : List Nat) : Prop where
  pg : PG X tg (tG X.K G p t ts)
  kp : TKeep t
  nx : ∀ d e c, t d e ≠ .ex c
structure SGs (X : Cx) (G : Nat → Nat) (p : Nat) (tg : List Expr) (t : Tts) (ts : List Nat) : Prop where
  pg : PGs X tg (tGs X.K G p t ts)
  kp : TsKeep t
  nx : ∀ d e c, t d e ≠ .ex c
theorem PG.imp {X : Cx} {tg : Expr} {t t' : TG} (h : PG X tg t) (f : ∀ v σ H Q, t' v σ H Q → t v σ H Q) : PG X tg t' := ⟨fun pins s σ H v u Q I r q => h.run pins s σ H v u Q I r (f v σ H Q q)⟩
theorem PGs.imp {X : Cx} {tg : List Expr} {t t' : TGs} (h : PGs X tg t) (f : ∀ v σ H Q, t' v σ H Q → t v σ H Q) : PGs X tg t' := ⟨fun pins s σ H v u Q I r q => h.run pins s σ H v u Q I r (f v σ H Q q)⟩
section
variable {X : Cx} {G : Nat → Nat} {p : Nat}
theorem g_name {i : Nat} {x : Str} {pos : Pos} (hN : X.N.Nodup) (hi : X.N[i]? = some x := by rfl) (hx : Loc X.env.scope x := by first | exact Or.inl rfl | exact Or.inr rfl) (hf : X.fn x = true ∨ X.env.scope.names.lookup x = some .local := by first | exact .inl rfl | exact .inr rfl | assumption) (hp : G i = p := by rfl) :
    SG X G p (.Name x pos) (gName i) [i] := by
  subst hp
  refine ⟨PG.imp (pg_name hN hi hx hf) fun v σ H Q ⟨T, B, Z, rt, e, d, r, rd, q⟩ => ?_, k_name i, fun d e c h => by cases h⟩
  exact q _ (r.setVal i rd) ⟨List.length_set .., fun j hj => List.getElem?_set_ne (fun z => hj (List.mem_singleton.mpr z.symm))⟩
theorem gs_nil : SGs X G p [] gNil [] := by
  refine ⟨PGs.imp pgs_nil fun v σ H Q ⟨T, B, Z, rt, e, ds, r, rd, q⟩ => ?_, ks_nil, fun d e c h => by cases d <;> cases h⟩
  cases ds with
  | nil =>
    have ev : v = [] := rd
    exact ⟨ev, q σ r (Only.refl _ _)⟩
  | cons _ _ => exact q.elim
theorem gs_cons {x : Expr} {xs : List Expr} {t : Tt} {u : Tts} {ts us : List Nat} (h1 : SG X G p x t ts) (h2 : SGs X G p xs u us) (hs : (assignEach (x :: xs) X.env).map (·.2) = assign x X.env :: (assignEach xs X.env).map (·.2) := by rfl) : SGs X G p (x :: xs) (gCons t u) (ts ++ us) := by
  refine ⟨PGs.imp (pgs_cons h1.pg h2.pg hs) fun v σ H Q ⟨T, B, Z, rt, e, ds, r, rd, q⟩ => ?_, ks_cons h1.kp h2.kp, fun d e c h => by
    cases d with
    | nil => cases h
    | cons c1 cr =>
      have h : (t c1 e).bind (fun e' => u cr e') = .ex c := h
      cases h3 : t c1 e with
      | bad => rw [h3] at h; cases h
      | ex z => exact h1.nx c1 e z h3
      | ok e1 => rw [h3, R.bind_ok] at h; exact h2.nx cr e1 c h⟩
  · cases ds with
    | nil => exact q.elim
    | cons d dr =>
      obtain ⟨y, ys, rfl, ry, rys⟩ := rd
      refine ⟨y, ys, rfl, T, B, Z, rt, e, d, r, ry, ?_⟩
      have q : (match (t d e).bind fun e' => u dr e' with
        | .ok e' => ∀ σ', Rel X.K B G Z rt e' σ' H → Only (ts ++ us) σ σ' → Q σ' H
        | _ => False) := q
      cases h : t d e with
      | bad => rw [h] at q; exact q.elim
      | ex _ => rw [h] at q; exact q.elim
      | ok e1 =>
        rw [h, R.bind_ok] at q
        intro σ1 r1 o1
        refine ⟨T, B, Z, rt, e1, dr, r1, rys, ?_⟩
        cases h' : u dr e1 with
        | bad => rw [h'] at q; exact q.elim
        | ex _ => rw [h'] at q; exact q.elim
        | ok e2 =>
          rw [h'] at q
          exact fun σ2 r2 o2 => q σ2 r2 (o1.trans o2)
theorem g_tup {xs : List Expr} {k : Nat} {pos : Pos} {t : Tts} {ts : List Nat} {n : Nat} (hc : X.calm = true) (h : SGs X G p xs t ts) (hn : (assignEach xs X.env).length = n := by rfl) (hst : (assignEach xs X.env).findIdx? (·.1) = none := by rfl) : SG X G p (.Tuple xs k pos) (gTup n t) ts := by
  refine ⟨PG.imp (pg_tup hc h.pg hn hst) fun v σ H Q ⟨T, B, Z, rt, e, d, r, rd, q⟩ => ?_, k_tup h.kp, fun d e c h' => by
    cases d <;> first | cases h' | skip
    rename_i es
    have h' : (if es.length = n then t es e else .bad) = .ex c := h'
    by_cases hl : es.length = n
    · rw [if_pos hl] at h'
      exact h.nx es e c h'
    · rw [if_neg hl] at h'
      cases h'⟩
  · cases d <;> first | exact q.elim | skip
    rename_i ds
    obtain ⟨a, ys, rfl, hs, rr⟩ := rd
    have q : (match (if ds.length = n then t ds e else .bad) with
        | .ok e' => ∀ σ', Rel X.K B G Z rt e' σ' H → Only ts σ σ' → Q σ' H
        | _ => False) := q
    by_cases hl : ds.length = n
    · rw [if_pos hl] at q
      exact ⟨a, ys, rfl, sqt hs, by rw [rr.length]; exact hl, T, B, Z, rt, e, ds, r, rr, q⟩
    · rw [if_neg hl] at q
      exact q.elim
end

/-! ### comprehensions -/
section
variable {T : Tkn} {K : PySem.W.Frag} {e : En} {σ : L2.St} {H H1 : Hp}
theorem wipeE_own : ∀ {vs : List Nat} {i : Nat} {s : S}, (wipeE e vs)[i]? = some (some s) → e[i]? = some (some s)
  | [], _, _, h => h
  | v :: vs, i, ds, h => by
    rw [wipeE_cons] at h
    by_cases hj : v = i
    · subst hj
      by_cases hl : v < (wipeE e vs).length
      · rw [List.getElem?_set_self hl] at h; cases h
      · rw [List.getElem?_eq_none (by rw [List.length_set]; omega)] at h; cases h
    · rw [List.getElem?_set_ne hj] at h
      exact wipeE_own h
end
abbrev W0 (G : Nat → Nat) : Wi := ⟨fun _ _ _ _ _ => True, fun _ _ _ _ => False, G, false, false⟩
theorem compL_cons (t : Tt) (c : Tx) (m : Ex) (e : En) (d : D) (r : List D) {ys : List D} (h : compL t c m e (d :: r) = .ok ys) :
    ∃ e', t d e = .ok e' ∧ ((c e' = .ok false ∧ compL t c m e r = .ok ys) ∨ ∃ x zs, c e' = .ok true ∧ m e' = .ok x ∧ compL t c m e r = .ok zs ∧ ys = x.d :: zs) := by
  have h : (t d e).bind (fun e' => (c e').bind fun b => match b with
    | true => (m e').bind fun x => (compL t c m e r).bind fun ys => .ok (x.d :: ys)
    | false => compL t c m e r) = .ok ys := h
  cases h1 : t d e with
  | bad => rw [h1] at h; cases h
  | ex _ => rw [h1] at h; cases h
  | ok e' =>
    rw [h1, R.bind_ok] at h
    refine ⟨e', rfl, ?_⟩
    cases h2 : c e' with
    | bad => rw [h2] at h; cases h
    | ex _ => rw [h2] at h; cases h
    | ok b =>
      rw [h2, R.bind_ok] at h
      cases b with
      | false => exact .inl ⟨rfl, h⟩
      | true =>
        have h : (m e').bind (fun x => (compL t c m e r).bind fun ys => .ok (x.d :: ys)) = .ok ys := h
        cases h3 : m e' with
        | bad => rw [h3] at h; cases h
        | ex _ => rw [h3] at h; cases h
        | ok x =>
          rw [h3, R.bind_ok] at h
          cases h4 : compL t c m e r with
          | bad => rw [h4] at h; cases h
          | ex _ => rw [h4] at h; cases h
          | ok zs =>
            rw [h4, R.bind_ok] at h
            cases h
            exact .inr ⟨x, zs, rfl, rfl, rfl, rfl⟩
section
variable {X : Cx} {W : Wi}
/-- the pure run of a comprehension is its reading -/
theorem comp_sim {it : Ax} {al l lr : List Nat} {t : Tt} {c : Tx} {m : Ex} {ts vs : List Nat} {p : Nat} (hal : ∀ j ∈ al, W.g j = p) (hr1 : ∀ j ∈ l, j ∈ lr) (hr2 : (∀ j ∈ l, W.g j ≠ p) ∨ ∀ j ∈ al, j ∈ lr) (kt : TKeep t) (hts : ∀ i ∈ ts, i ∈ vs) (σ : L2.St) (H : Hp) (Q : VK) (q : tE X.K W (eComp al vs it t c m) lr σ H Q) :
    tLc (tI X.K W it al) (tG X.K W.g p t ts) (tT X.K (W0 W.g) c) (tE X.K (W0 W.g) m l) vs σ H Q := by
  obtain ⟨T, B, Z, rt, e, r, q⟩ := q
  unfold eComp at q
  refine ⟨T, B, Z, rt, e, r, ?_⟩
  cases hit : it e with
  | bad => rw [hit] at q; exact q.elim
  | ex d => rw [hit] at q; exact q
  | ok ds =>
    rw [hit, R.bind_ok] at q
    intro J H1 sm ir D hD
    cases hc : compL t c m (wipeE (freeze al e) vs) ds with
    | bad => rw [hc] at q; exact q.elim
    | ex d => rw [hc] at q; exact q.elim
    | ok yf =>
      simp only [hc] at q
      by_cases hl : yf.length ≤ 65536
      case neg => rw [if_neg hl] at q; exact q.elim
      rw [if_pos hl] at q
      -- the block's environment
      have r1 : Rel X.K B W.g (ZN p Z e rt al H H1 fun _ => False) rt (wipeE (freeze al e) vs) (L2.wipe σ vs) H1 := (r.grow sm p al hal _).wipe vs
      have z1 : ∀ a, (NZ W.g Z e rt al H a ∧ H1 a ≠ none) → ZN p Z e rt al H H1 (fun _ => False) p a := fun a ⟨n, k⟩ => zn_sub hal n (fun z => z) k
      have zD : ∀ g, ¬ ZN p Z e rt al H H1 (fun _ => False) g D := fun g z => r1.al g D z hD
      -- the nodes of what is made
      let NE : Addr → Prop := fun a => NZ W.g Z e rt lr H a ∧ a ≠ D
      refine ⟨fun i n H2 => n = ds.length - i ∧ i ≤ ds.length ∧ Same H1 H2 ∧ ∃ acc ys rest, H2 D = some (.lst acc) ∧ RepL X.K NE H2 ys acc ∧ compL t c m (wipeE (freeze al e) vs) (ds.drop i) = .ok rest ∧ yf = ys ++ rest,
        ⟨ds.length, by simp, Nat.zero_le _, same_new hD, [], [], yf, upd_same, rfl, hc, rfl⟩, ?_⟩
      rintro i n H2 ⟨rfl, hi, sm2, acc, ys, rest, hacc, hys, hrest, hyf⟩
      have acl : acc.length ≤ 65536 := by
        rw [hys.length]
        rw [hyf, List.length_append] at hl
        omega
      by_cases hlt : i < ds.length
      · have hd : ds[i]? = some ds[i] := List.getElem?_eq_getElem hlt
        rw [List.drop_eq_getElem_cons hlt] at hrest
        obtain ⟨e', ht, hcase⟩ := compL_cons t c m _ _ _ hrest
        refine .inr ⟨ir.go i H2 (same_kp sm2) hlt, fun H' => Same H1 H' ∧ ∃ acc ys rest, H' D = some (.lst acc) ∧ RepL X.K NE H' ys acc ∧ compL t c m (wipeE (freeze al e) vs) (ds.drop (i + 1)) = .ok rest ∧ yf = ys ++ rest,
          fun H' h' => ⟨ds.length - (i + 1), by omega, rfl, hlt, h'⟩, fun x H3 hy => ?_⟩
        obtain ⟨sm3, rx⟩ := ir.yld i H2 x H3 ds[i] (same_kp sm2) hd hy
        refine ⟨T, B, _, rt, _, ds[i], r1.ext (sm2.trans sm3), rx.mono z1, ?_⟩
        rw [ht]
        intro σ' r' o'
        refine ⟨o'.wipe hts, T, B, _, rt, e', r', ?_⟩
        have back : ∀ a, Root e' rt l a → Root e rt lr a ∧ H1 a ≠ none := fun a ⟨j, hj, qq⟩ => by
          rcases qq with ⟨⟨es, q1⟩, ea⟩ | ⟨⟨os2, q1⟩, ek⟩
          case inr =>
            have q2 := kt _ _ _ ht j _ rfl q1
            obtain ⟨q3, _⟩ := freeze_sto (wipeE_own q2)
            have q4 : Root e rt lr a := ⟨j, hr1 j hj, .inr ⟨⟨os2, q3⟩, ek⟩⟩
            obtain ⟨_, xs, h⟩ := r.root q4
            exact ⟨q4, by rw [sm _ _ h]; exact nofun⟩
          have q2 := kt _ _ _ ht j _ rfl q1
          obtain ⟨q3, _⟩ := freeze_own (wipeE_own q2)
          have q4 : Root e rt lr a := ⟨j, hr1 j hj, .inl ⟨⟨es, q3⟩, ea⟩⟩
          obtain ⟨_, xs, h⟩ := r.root q4
          exact ⟨q4, by rw [sm _ _ h]; exact nofun⟩
        rcases hcase with ⟨h1, h2⟩ | ⟨y, zs, h1, h2, h3, h4⟩
        · rw [h1]
          intro H4 sm4
          rw [if_neg Bool.false_ne_true]
          have s24 := sm3.trans sm4
          exact ⟨sm2.trans s24, acc, ys, rest, s24 _ _ hacc, hys.same s24, h2, hyf⟩
        · rw [h1]
          intro H4 sm4
          rw [if_pos rfl]
          refine ⟨T, B, _, rt, e', r'.ext sm4, ?_⟩
          rw [h2]
          intro v H5 sm5 rv
          have s25 := (sm3.trans sm4).trans sm5
          have hD5 : H5 D = some (.lst acc) := s25 _ _ hacc
          refine ⟨acc, hD5, Nat.lt_of_le_of_lt acl (by decide), ?_, acc ++ [v], ys ++ [y.d], zs, upd_same, ?_, h3, ?_⟩
          · intro b o z
            rw [upd_ne (ne_of_none z hD)]
            exact s25 _ _ (sm2 _ _ z)
          · have st : Still H5 (upd H5 D (.lst (acc ++ [v]))) := still_lst hD5
            have up : ∀ {N : Addr → Prop} {ds : List Tg.D} {xs : List V}, (∀ a, N a → NE a) → RepL X.K N H5 ds xs → RepL X.K NE (upd H5 D (.lst (acc ++ [v]))) ds xs := fun hN h => RepL.imp (fun a xs n k => ⟨hN a n, by rw [upd_ne (hN a n).2]; exact k⟩) st _ _ h
            refine (up (fun a n => n) (hys.same s25)).append ?_
            have rvd : Rep X.K (fun a => NE a) H5 y.d v := by
              have n4 : ∀ a, NZ W.g (ZN p Z e rt al H H1 fun _ => False) e' rt l H4 a → NZ W.g Z e rt lr H a ∧ (H4 a ≠ none → a ≠ D) := fun a n => by
                rcases n with ⟨j, hj, n⟩ | n | n
                · refine ⟨?_, fun _ w => zD _ (w ▸ n)⟩
                  rcases n with n | ⟨ep, ⟨n, _⟩ | ⟨i, hi, n⟩⟩
                  · exact .inl ⟨j, hr1 j hj, n⟩
                  · exact .inr (.inl n)
                  · rcases hr2 with h | h
                    · exact absurd ep (h j hj)
                    · exact .inr (.inr ⟨i, h i hi, n⟩)
                · exact ⟨.inr (.inl ((sm.trans (sm2.trans (sm3.trans sm4))).free n)), fun k => absurd n k⟩
                · obtain ⟨n1, n2⟩ := back a n
                  exact ⟨.inr (.inr n1), fun _ w => n2 (w ▸ hD)⟩
              have hD4 : H4 D ≠ none := by rw [(sm3.trans sm4) _ _ hacc]; exact nofun
              have nd : ∀ a, NZ W.g (ZN p Z e rt al H H1 fun _ => False) e' rt l H4 a → NE a := fun a n => ⟨(n4 a n).1, fun w => by
                subst w
                exact (n4 a n).2 hD4 rfl⟩
              exact (rv.mono nd).d fun a z => ⟨.inr (.inl ((sm.trans (sm2.trans (sm3.trans sm4))).free z)), fun w => hD4 (w ▸ z)⟩
            exact up (fun a n => n) (RepL.one rvd)
          · rw [hyf, h4, List.append_assoc]
            rfl
      · have ei : i = ds.length := by omega
        refine .inl ⟨ir.stop i H2 (same_kp sm2) (by omega) (by omega), ?_⟩
        rw [ei, List.drop_length] at hrest
        cases hrest
        rw [List.append_nil] at hyf
        subst hyf
        exact q _ H2 (sm.trans sm2) ⟨D, acc, rfl, sm.free hD, hacc, hys⟩
theorem ts_nil {G : Nat → Nat} : PTs X [] (tT X.K (W0 G) tTrue) := ⟨fun pins s σ H Q I ⟨T, B, Z, rt, e, r, q⟩ => pts_nil.run pins s σ H Q I (q H (Same.refl H))⟩
theorem ts_one {G : Nat → Nat} {x : Expr} {c : Tx} (h : ST X (W0 G) x c) : PTs X [x] (tT X.K (W0 G) c) := pts_one h
theorem x_compG {elt tg iter : Expr} {ifs : List Expr} {scope : Scope} {own : List (Str × Nat)} {pos : Pos} {it : Ax} {al l lr : List Nat} {t : Tt} {c : Tx} {m : Ex} {ts : List Nat} {p : Nat} (hal : ∀ j ∈ al, W.g j = p) (hr1 : ∀ j ∈ l, j ∈ lr) (hr2 : (∀ j ∈ l, W.g j ≠ p) ∨ ∀ j ∈ al, j ∈ lr) (kt : TKeep t) (hc : X.calm = true) (hN : X.N.Nodup) (hi : SI X W tg iter it al) (ok : BlkOk X.N X.env.scope scope own)
    (hg : ∀ (s : Shared) (H : Hp) (C : Addr) (cl : List (Str × Addr)) (fp : List Addr), SG (X.blk s H scope (compEnvC scope cl C X.env) fp) W.g p tg t ts) (ht : ∀ (s : Shared) (H : Hp) (C : Addr) (cl : List (Str × Addr)) (fp : List Addr), PTs (X.blk s H scope (compEnvC scope cl C X.env) fp) ifs (tT X.K (W0 W.g) c))
    (he : ∀ (s : Shared) (H : Hp) (C : Addr) (cl : List (Str × Addr)) (fp : List Addr), SE (X.blk s H scope (compEnvC scope cl C X.env) fp) (W0 W.g) elt m l) (hts : ∀ i ∈ ts, i ∈ own.map (·.2) := by decide) (hs : ∀ x, foldedSetIterable iter X.env x = pure x := by intro _; rfl) :
    SE X W (.ListComp elt [⟨tg, iter, ifs, 0⟩] scope pos) (eComp al (own.map (·.2)) it t c m) lr :=
  PE.imp (pe_lc hc hN hi ok (fun s H C cl fp => (hg s H C cl fp).pg) ht he hs) fun σ H Q q => comp_sim hal hr1 hr2 kt hts σ H Q q
theorem x_comp {elt tg iter : Expr} {ifs : List Expr} {scope : Scope} {own : List (Str × Nat)} {pos : Pos} {it : Ax} {al l : List Nat} {t : Tt} {c : Tx} {m : Ex} {ts : List Nat} (p : Nat) (kt : TKeep t) (hc : X.calm = true) (hN : X.N.Nodup) (hi : SI X W tg iter it al) (ok : BlkOk X.N X.env.scope scope own)
    (hg : ∀ (s : Shared) (H : Hp) (C : Addr) (cl : List (Str × Addr)) (fp : List Addr), SG (X.blk s H scope (compEnvC scope cl C X.env) fp) W.g p tg t ts) (ht : ∀ (s : Shared) (H : Hp) (C : Addr) (cl : List (Str × Addr)) (fp : List Addr), PTs (X.blk s H scope (compEnvC scope cl C X.env) fp) ifs (tT X.K (W0 W.g) c))
    (he : ∀ (s : Shared) (H : Hp) (C : Addr) (cl : List (Str × Addr)) (fp : List Addr), SE (X.blk s H scope (compEnvC scope cl C X.env) fp) (W0 W.g) elt m l) (hal : allg W.g p al = true := by rfl) (hts : ∀ i ∈ ts, i ∈ own.map (·.2) := by decide) (hs : ∀ x, foldedSetIterable iter X.env x = pure x := by intro _; rfl) :
    SE X W (.ListComp elt [⟨tg, iter, ifs, 0⟩] scope pos) (eComp al (own.map (·.2)) it t c m) (al ++ l) :=
  x_compG (allg_of hal) (fun j hj => List.mem_append_right _ hj) (.inr fun j hj => List.mem_append_left _ hj) kt hc hN hi ok hg ht he hts hs
/-- whose things share nothing with what is walked -/
theorem x_compF {elt tg iter : Expr} {ifs : List Expr} {scope : Scope} {own : List (Str × Nat)} {pos : Pos} {it : Ax} {al l : List Nat} {t : Tt} {c : Tx} {m : Ex} {ts : List Nat} (p : Nat) (kt : TKeep t) (hc : X.calm = true) (hN : X.N.Nodup) (hi : SI X W tg iter it al) (ok : BlkOk X.N X.env.scope scope own)
    (hg : ∀ (s : Shared) (H : Hp) (C : Addr) (cl : List (Str × Addr)) (fp : List Addr), SG (X.blk s H scope (compEnvC scope cl C X.env) fp) W.g p tg t ts) (ht : ∀ (s : Shared) (H : Hp) (C : Addr) (cl : List (Str × Addr)) (fp : List Addr), PTs (X.blk s H scope (compEnvC scope cl C X.env) fp) ifs (tT X.K (W0 W.g) c))
    (he : ∀ (s : Shared) (H : Hp) (C : Addr) (cl : List (Str × Addr)) (fp : List Addr), SE (X.blk s H scope (compEnvC scope cl C X.env) fp) (W0 W.g) elt m l) (hal : allg W.g p al = true := by rfl) (hno : l.all (fun j => W.g j != p) = true := by rfl) (hts : ∀ i ∈ ts, i ∈ own.map (·.2) := by decide) (hs : ∀ x, foldedSetIterable iter X.env x = pure x := by intro _; rfl) :
    SE X W (.ListComp elt [⟨tg, iter, ifs, 0⟩] scope pos) (eComp al (own.map (·.2)) it t c m) l :=
  x_compG (allg_of hal) (fun j hj => hj) (.inl fun j hj => by simpa using List.all_eq_true.mp hno j hj) kt hc hN hi ok hg ht he hts hs
end
end Tg

/-! Tg, part 11: statements, loops, defs. -/
namespace Tg
open PySem PySem.Spec PyProof.Rows L2

/-- what loops around hold stands, the tokens known there are known -/
structure KT (N : Addr → Prop) (Hb : Hp × Tkn) (T : Tkn) (H : Hp) : Prop where
  k : Kp N Hb.1 H
  t : TLe Hb.2 T
theorem KT.trans {N : Addr → Prop} {Hb : Hp × Tkn} {T : Tkn} {H H1 : Hp} (a : KT N Hb T H) (b : Kp N H H1) : KT N Hb T H1 := ⟨a.k.trans b, a.t⟩
theorem KT.refl {N : Addr → Prop} {T : Tkn} {H : Hp} : KT N (H, T) T H := ⟨Kp.refl _ _, TLe.refl _⟩
/-- the state of a def's body: H0, Z0 the entry's; Zl, Hb what the loops around hold, of the groups in hg -/
def Body [T : Tkn] (K : PySem.W.Frag) (G : Nat → Nat) (H0 : Hp) (Z0 : Addr → Prop) (lk : List Nat) (Zl : Nat → Addr → Prop) (Hb : Hp × Tkn) (e : En) (σ : L2.St) (H : Hp) : Prop :=
  Same H0 H ∧ KT (fun a => ∃ p, Zl p a) Hb T H ∧ ∃ (Z : Nat → Addr → Prop) (rt : Nat → Addr), (∀ p a, Zl p a → p ∈ lk ∧ Z p a) ∧ (∀ p a, Z p a → p = 99 ∨ Z0 a ∨ H0 a = none) ∧ Rel K (fun a => H0 a = none) G Z rt e σ H
/-- how the tokens may grow: not at all without a store -/
class GrT (W : Wi) (T T2 : Tkn) : Prop where
  h : if W.st = true then TLe T T2 else T2 = T
instance GrT.refl {W : Wi} {T : Tkn} : GrT W T T := ⟨by split; exact TLe.refl T; rfl⟩
theorem GrT.trans {W : Wi} {A B C : Tkn} (h : GrT W A B) (g : GrT W B C) : GrT W A C := ⟨by
  have h1 := h.h
  have g1 := g.h
  split
  · rename_i q
    rw [if_pos q] at h1 g1
    exact TLe.trans h1 g1
  · rename_i q
    rw [if_neg q] at h1 g1
    exact g1.trans h1⟩
theorem GrT.le {W : Wi} {T T2 : Tkn} (g : GrT W T T2) : TLe T T2 := by
  have h1 := g.h
  split at h1
  · exact h1
  · rw [h1]; exact TLe.refl T
/-- what a statement's pure run must be for -/
def Out [T : Tkn] (K : PySem.W.Frag) (W : Wi) (H0 : Hp) (Z0 : Addr → Prop) (lk : List Nat) (Zl : Nat → Addr → Prop) (Hb : Hp × Tkn) (D : Ends) : R Fl → Prop
  | .ok (.nx e') => ∀ {T2 : Tkn} [GrT W T T2] σ' H', Body K W.g H0 Z0 lk Zl Hb e' σ' H' → D.nx σ' H'
  | .ok (.rt s) => ∀ {T2 : Tkn} [GrT W T T2] x H', Same H0 H' → RepO K (fun a => (W.fr = false ∧ Z0 a) ∨ H0 a = none) H0 H' s x → D.rt x H'
  | .ex d => ∀ c o σ' H', Same H0 H' → (XC W.xr H0 d c o H' → W.w c o σ' H')
  | .bad => False
theorem Out.mono {T T2 : Tkn} {K : PySem.W.Frag} {W : Wi} {H0 : Hp} {Z0 : Addr → Prop} {lk : List Nat} {Zl : Nat → Addr → Prop} {Hb : Hp × Tkn} {D : Ends} {r : R Fl} (g : GrT W T T2) (q : @Out T K W H0 Z0 lk Zl Hb D r) : @Out T2 K W H0 Z0 lk Zl Hb D r := by
  cases r with
  | ok f =>
    cases f with
    | nx e => exact @fun T3 g3 σ' H' B => @q T3 (g.trans g3) σ' H' B
    | rt s => exact @fun T3 g3 x H' sm rs => @q T3 (g.trans g3) x H' sm rs
  | ex d => exact q
  | bad => exact q
def tS (K : PySem.W.Frag) (W : Wi) (H0 : Hp) (Z0 : Addr → Prop) (lk : List Nat) (m : Sx) : TS := fun D σ H => ∃ (T : Tkn) (Zl : Nat → Addr → Prop) (Hb : Hp × Tkn) (e : En), Body K W.g H0 Z0 lk Zl Hb e σ H ∧ Out K W H0 Z0 lk Zl Hb D (m e)
abbrev SS (X : Cx) (W : Wi) (H0 : Hp) (Z0 : Addr → Prop) (lk : List Nat) (st : Stmt) (m : Sx) : Prop := PS X st (tS X.K W H0 Z0 lk m)
abbrev SB (X : Cx) (W : Wi) (H0 : Hp) (Z0 : Addr → Prop) (lk : List Nat) (st : List Stmt) (m : Sx) : Prop := PSs X st (tS X.K W H0 Z0 lk m)

section
variable {X : Cx} {W : Wi} {H0 : Hp} {Z0 : Addr → Prop} {lk : List Nat} {a b : Expr} {m n : Ex} {l k : List Nat} {pos : Pos} {st : Stmt} {rest body orelse : List Stmt} {M N : Sx}
theorem b_nil : SB X W H0 Z0 lk [] sNop := PSs.imp pss_nil fun D σ H ⟨T, Zl, Hb, e, B, q⟩ => q σ H B
theorem b_cons (h1 : SS X W H0 Z0 lk st M) (h2 : SB X W H0 Z0 lk rest N) : SB X W H0 Z0 lk (st :: rest) (sSeq M N) := by
  refine PSs.imp (pss_cons h1 h2) fun D σ H ⟨T, Zl, Hb, e, B, q⟩ => ?_
  unfold sSeq at q
  refine ⟨T, Zl, Hb, e, B, ?_⟩
  cases h : M e with
  | bad => rw [h] at q; exact q.elim
  | ex d => rw [h] at q; exact q
  | ok f =>
    rw [h, R.bind_ok] at q
    cases f with
    | rt s => exact q
    | nx e' => exact @fun _ g σ' H' B' => ⟨_, Zl, Hb, e', B', Out.mono g q⟩
theorem b_one (h1 : SS X W H0 Z0 lk st M) : SB X W H0 Z0 lk [st] M := pss_one h1
theorem s_pass : SS X W H0 Z0 lk (.Pass pos) sNop := PS.imp ps_pass fun D σ H ⟨T, Zl, Hb, e, B, q⟩ => q σ H B
theorem s_doc {x j p} : SS X W H0 Z0 lk (.Expr (.Constant (.str x) j p) pos) sNop := PS.imp ps_doc fun D σ H ⟨T, Zl, Hb, e, B, q⟩ => q σ H B
/-- a statement that is not run -/
theorem s_never : SS X W H0 Z0 lk st sBad := PS.imp ps_never fun D σ H ⟨T, Zl, Hb, e, B, q⟩ => q.elim

/-- a body's state behind a pure expression -/
theorem Body.new {T : Tkn} {K : PySem.W.Frag} {G : Nat → Nat} {Zl : Nat → Addr → Prop} {Hb : Hp × Tkn} {e : En} {σ : L2.St} {H H' : Hp} {Z : Nat → Addr → Prop} {rt : Nat → Addr} (s0 : Same H0 H) (kp : KT (fun a => ∃ p, Zl p a) Hb T H) (sm : Same H H') (h1 : ∀ p a, Zl p a → p ∈ lk ∧ Z p a) (h2 : ∀ p a, Z p a → p = 99 ∨ Z0 a ∨ H0 a = none)
    (r : Rel K (fun a => H0 a = none) G Z rt e σ H') : Body K G H0 Z0 lk Zl Hb e σ H' := ⟨s0.trans sm, kp.trans (same_kp sm), Z, rt, h1, h2, r⟩
theorem up1 {Zl : Nat → Addr → Prop} {Z Z' : Nat → Addr → Prop} (h1 : ∀ p a, Zl p a → p ∈ lk ∧ Z p a) (z1 : ∀ p a, Z p a → Z' p a) : ∀ p a, Zl p a → p ∈ lk ∧ Z' p a := fun p a z => ⟨(h1 p a z).1, z1 p a (h1 p a z).2⟩
theorem up2 {Z Z' : Nat → Addr → Prop} (h2 : ∀ p a, Z p a → p = 99 ∨ Z0 a ∨ H0 a = none) (z2 : ∀ p a, Z' p a → Z p a ∨ H0 a = none) : ∀ p a, Z' p a → p = 99 ∨ Z0 a ∨ H0 a = none := fun p a z => (z2 p a z).elim (h2 p a) fun z => .inr (.inr z)
/-- x = e -/
theorem set_sim {i : Nat} (hl : ∀ j ∈ l, W.g j = W.g i) (D : Ends) (σ : L2.St) (H : Hp) (q : tS X.K W H0 Z0 lk (sSet l i m) D σ H) : tAsg (tE X.K W m l) (L2.gName i) D σ H := by
  obtain ⟨T, Zl, Hb, e, ⟨s0, kp, Z, rt, h1, h2, r⟩, q⟩ := q
  unfold sSet at q
  refine tE_go r (fun d hd c o H' sm => by rw [hd] at q; exact (fun z9 => q c o σ H' (s0.trans sm) (z9.mo s0))) (fun hd => by rw [hd] at q; exact q) fun s x H1 hs sm r1 rs => ?_
  rw [hs, R.bind_ok] at q
  obtain ⟨Z', rt', z1, z2, r'⟩ := r.put sm rs i hl
  exact q _ H1 (.new s0 kp sm (up1 h1 z1) (up2 h2 z2) r')
theorem s_set (i : Nat) {x : Str} {p : Pos} (hN : X.N.Nodup) (he : SE X W a m l) (hi : X.N[i]? = some x := by rfl) (hx : Loc X.env.scope x := by first | exact Or.inl rfl | exact Or.inr rfl) (hs : swapsWith a (some (.Name x p)) pos.line X.env = pure false := by rfl) (hf : X.fn x = true ∨ X.env.scope.names.lookup x = some .local := by first | exact .inl rfl | exact .inr rfl | assumption) (hl : allg W.g (W.g i) l = true := by rfl) :
    SS X W H0 Z0 lk (.Assign [.Name x p] a pos) (sSet l i m) := PS.imp (ps_set hN hi hx he hs hf) (set_sim (allg_of hl))
/-- x = [..] -/
theorem s_setLcG (i : Nat) {y : Str} {py : Pos} {elt tg iter : Expr} {ifs : List Expr} {scope : Scope} {own : List (Str × Nat)} {pos spos : Pos} {it : Ax} {al l lr : List Nat} {t : Tt} {c : Tx} {m : Ex} {ts : List Nat} {pg : Nat} (hal : ∀ j ∈ al, W.g j = pg) (hr1 : ∀ j ∈ l, j ∈ lr) (hr2 : (∀ j ∈ l, W.g j ≠ pg) ∨ ∀ j ∈ al, j ∈ lr) (hl : ∀ j ∈ lr, W.g j = W.g i) (kt : TKeep t) (hc : X.calm = true) (hN : X.N.Nodup) (hi : SI X W tg iter it al) (ok : BlkOk X.N X.env.scope scope own)
    (hg : ∀ (s : Shared) (H : Hp) (C : Addr) (cl : List (Str × Addr)) (fp : List Addr), SG (X.blk s H scope (compEnvC scope cl C X.env) fp) W.g pg tg t ts) (ht : ∀ (s : Shared) (H : Hp) (C : Addr) (cl : List (Str × Addr)) (fp : List Addr), PTs (X.blk s H scope (compEnvC scope cl C X.env) fp) ifs (tT X.K (W0 W.g) c))
    (he : ∀ (s : Shared) (H : Hp) (C : Addr) (cl : List (Str × Addr)) (fp : List Addr), SE (X.blk s H scope (compEnvC scope cl C X.env) fp) (W0 W.g) elt m l) (hsw : swapsWith (.ListComp elt [⟨tg, iter, ifs, 0⟩] scope pos) (some (.Name y py)) spos.line X.env = pure true) (hts : ∀ i ∈ ts, i ∈ own.map (·.2) := by decide)
    (hy : X.N[i]? = some y := by rfl) (hyl : X.env.scope.names.lookup y = some .local := by rfl) (hs : ∀ x, foldedSetIterable iter X.env x = pure x := by intro _; rfl) :
    SS X W H0 Z0 lk (.Assign [.Name y py] (.ListComp elt [⟨tg, iter, ifs, 0⟩] scope pos) spos) (sSet lr i (eComp al (own.map (·.2)) it t c m)) :=
  PS.imp (ps_setLc hc hN hy hyl hsw hi ok (fun s H C cl fp => (hg s H C cl fp).pg) ht he hs) fun D σ H q => comp_sim hal hr1 hr2 kt hts σ H _ (set_sim hl D σ H q)
theorem s_setLc (i : Nat) {y : Str} {py : Pos} {elt tg iter : Expr} {ifs : List Expr} {scope : Scope} {own : List (Str × Nat)} {pos spos : Pos} {it : Ax} {al l : List Nat} {t : Tt} {c : Tx} {m : Ex} {ts : List Nat} (pg : Nat) (kt : TKeep t) (hc : X.calm = true) (hN : X.N.Nodup) (hi : SI X W tg iter it al) (ok : BlkOk X.N X.env.scope scope own)
    (hg : ∀ (s : Shared) (H : Hp) (C : Addr) (cl : List (Str × Addr)) (fp : List Addr), SG (X.blk s H scope (compEnvC scope cl C X.env) fp) W.g pg tg t ts) (ht : ∀ (s : Shared) (H : Hp) (C : Addr) (cl : List (Str × Addr)) (fp : List Addr), PTs (X.blk s H scope (compEnvC scope cl C X.env) fp) ifs (tT X.K (W0 W.g) c))
    (he : ∀ (s : Shared) (H : Hp) (C : Addr) (cl : List (Str × Addr)) (fp : List Addr), SE (X.blk s H scope (compEnvC scope cl C X.env) fp) (W0 W.g) elt m l) (hsw : swapsWith (.ListComp elt [⟨tg, iter, ifs, 0⟩] scope pos) (some (.Name y py)) spos.line X.env = pure true) (hal : allg W.g pg al = true := by rfl) (hl : allg W.g (W.g i) (al ++ l) = true := by rfl) (hts : ∀ i ∈ ts, i ∈ own.map (·.2) := by decide)
    (hy : X.N[i]? = some y := by rfl) (hyl : X.env.scope.names.lookup y = some .local := by rfl) (hs : ∀ x, foldedSetIterable iter X.env x = pure x := by intro _; rfl) :
    SS X W H0 Z0 lk (.Assign [.Name y py] (.ListComp elt [⟨tg, iter, ifs, 0⟩] scope pos) spos) (sSet (al ++ l) i (eComp al (own.map (·.2)) it t c m)) :=
  s_setLcG i (allg_of hal) (fun j hj => List.mem_append_right _ hj) (.inr fun j hj => List.mem_append_left _ hj) (allg_of hl) kt hc hN hi ok hg ht he hsw hts hy hyl hs
theorem s_setLcF (i : Nat) {y : Str} {py : Pos} {elt tg iter : Expr} {ifs : List Expr} {scope : Scope} {own : List (Str × Nat)} {pos spos : Pos} {it : Ax} {al l : List Nat} {t : Tt} {c : Tx} {m : Ex} {ts : List Nat} (pg : Nat) (kt : TKeep t) (hc : X.calm = true) (hN : X.N.Nodup) (hi : SI X W tg iter it al) (ok : BlkOk X.N X.env.scope scope own)
    (hg : ∀ (s : Shared) (H : Hp) (C : Addr) (cl : List (Str × Addr)) (fp : List Addr), SG (X.blk s H scope (compEnvC scope cl C X.env) fp) W.g pg tg t ts) (ht : ∀ (s : Shared) (H : Hp) (C : Addr) (cl : List (Str × Addr)) (fp : List Addr), PTs (X.blk s H scope (compEnvC scope cl C X.env) fp) ifs (tT X.K (W0 W.g) c))
    (he : ∀ (s : Shared) (H : Hp) (C : Addr) (cl : List (Str × Addr)) (fp : List Addr), SE (X.blk s H scope (compEnvC scope cl C X.env) fp) (W0 W.g) elt m l) (hsw : swapsWith (.ListComp elt [⟨tg, iter, ifs, 0⟩] scope pos) (some (.Name y py)) spos.line X.env = pure true) (hal : allg W.g pg al = true := by rfl) (hno : l.all (fun j => W.g j != pg) = true := by rfl) (hl : allg W.g (W.g i) l = true := by rfl) (hts : ∀ i ∈ ts, i ∈ own.map (·.2) := by decide)
    (hy : X.N[i]? = some y := by rfl) (hyl : X.env.scope.names.lookup y = some .local := by rfl) (hs : ∀ x, foldedSetIterable iter X.env x = pure x := by intro _; rfl) :
    SS X W H0 Z0 lk (.Assign [.Name y py] (.ListComp elt [⟨tg, iter, ifs, 0⟩] scope pos) spos) (sSet l i (eComp al (own.map (·.2)) it t c m)) :=
  s_setLcG i (allg_of hal) (fun j hj => hj) (.inl fun j hj => by simpa using List.all_eq_true.mp hno j hj) (allg_of hl) kt hc hN hi ok hg ht he hsw hts hy hyl hs
/-- x = y -/
theorem s_move (i j : Nat) {x y : Str} {p p2 : Pos} (hN : X.N.Nodup) (hi : X.N[i]? = some x := by rfl) (hj : X.N[j]? = some y := by rfl) (hx : Loc X.env.scope x := by first | exact Or.inl rfl | exact Or.inr rfl) (hv : Vis X.env.scope y := by first | exact Or.inl rfl | exact Or.inr (Or.inl rfl) | exact Or.inr (Or.inr rfl))
    (hs : swapsWith (.Name y p2) (some (.Name x p)) pos.line X.env = pure false := by rfl) (hd : (y == ("__debug__" : Str)) = false := by decide) (hcd : (y == ("__classdict__" : Str)) = false := by decide) (hf : X.fn x = true ∨ X.env.scope.names.lookup x = some .local := by first | exact .inl rfl | exact .inr rfl | assumption) (hne : j ≠ i := by decide) (hgg : W.g j = W.g i := by rfl) :
    SS X W H0 Z0 lk (.Assign [.Name x p] (.Name y p2) pos) (sMove i j) := by
  refine PS.imp (ps_set hN hi hx (pe_var hj hv hd hcd) hs hf) fun D σ H ⟨T, Zl, Hb, e, ⟨s0, kp, Z, rt, h1, h2, r⟩, q⟩ => ?_
  unfold sMove at q
  cases ho : e[j]? with
  | none => rw [ho] at q; exact q.elim
  | some o =>
    cases o with
    | none => rw [ho] at q; exact q.elim
    | some s =>
      rw [ho] at q
      cases s with
      | val d =>
        obtain ⟨v, k1, k2⟩ := r.val j d ho
        exact ⟨v, k1, q _ H ⟨s0, kp, Z, rt, h1, h2, r.setVal i (by rw [← hgg]; exact k2)⟩⟩
      | dct t kvs => exact q.elim
      | sto _ _ => exact q.elim
      | both _ _ => exact q.elim
      | own ds =>
        obtain ⟨k1, k2, k3, xs, k4, k5⟩ := r.own j ds ho
        have rn := (r.setNone j σ[j]?.join).setOwn i k2 k3 k4 (by rw [← hgg]; exact k5) (fun g u hg he hu hr => by
          rcases set_get he with ⟨_, z, _⟩ | ⟨hgj, he⟩
          · cases z
          · exact hgj (r.injs g j u _ he ho hu trivial hr)) (fun k z => (r.tks k _ z).2 j _ ho trivial rfl)
        have es : σ.set j σ[j]?.join = σ := by
          refine List.ext_getElem? fun g => ?_
          rw [List.getElem?_set]
          by_cases hg : j = g
          · subst hg
            rw [if_pos rfl, k1]
            have hl : j < σ.length := (List.getElem?_eq_some_iff.mp k1).1
            rw [if_pos hl]
            rfl
          · rw [if_neg hg]
        rw [es] at rn
        exact ⟨_, k1, q _ H ⟨s0, kp, Z, _, h1, h2, rn⟩⟩
/-- a, b = e -/
theorem s_asg {tg : Expr} {t : Tt} {ts : List Nat} (pg : Nat) (he : SE X W a m l) (hg : SG X W.g pg tg t ts) (hs : swapsWithSole [tg] a pos.line X.env = pure false := by rfl) (hw : swappedStores [tg] a X.env = pure none := by rfl) (h1 : (assignEach [tg] X.env).map (·.2) = [assign tg X.env] := by rfl) (hl : allg W.g pg l = true := by rfl) :
    SS X W H0 Z0 lk (.Assign [tg] a pos) (sAsg l t m) := by
  refine PS.imp (ps_asg he hg.pg hs hw h1) fun D σ H ⟨T, Zl, Hb, e, ⟨s0, kp, Z, rt, h1, h2, r⟩, q⟩ => ?_
  unfold sAsg at q
  refine tE_go r (fun d hd c o H' sm => by rw [hd] at q; exact (fun z9 => q c o σ H' (s0.trans sm) (z9.mo s0))) (fun hd => by rw [hd] at q; exact q) fun s x H1 hs sm r1 rs => ?_
  rw [hs, R.bind_ok] at q
  obtain ⟨Z', z1, z2, r', rx⟩ := r.hold sm rs pg (allg_of hl)
  refine ⟨T, _, Z', rt, _, s.d, r', rx, ?_⟩
  cases h : t s.d (keep l s.flat e) with
  | bad => rw [h] at q; exact q.elim
  | ex d => exact (hg.nx _ _ d h).elim
  | ok e' =>
    rw [h, R.bind_ok] at q
    exact fun σ' r2 _ => q σ' H1 (.new s0 kp sm (up1 h1 z1) (up2 h2 z2) r2)
theorem s_drop (he : SE X W a m l) (hs : swapsWith a none pos.line X.env = pure false := by rfl) : SS X W H0 Z0 lk (.Expr a pos) (sDrop m) := by
  refine PS.imp (ps_expr he hs) fun D σ H ⟨T, Zl, Hb, e, ⟨s0, kp, Z, rt, h1, h2, r⟩, q⟩ => ?_
  unfold sDrop at q
  refine tE_go r (fun d hd c o H' sm => by rw [hd] at q; exact (fun z9 => q c o σ H' (s0.trans sm) (z9.mo s0))) (fun hd => by rw [hd] at q; exact q) fun s x H1 hs sm r1 rs => ?_
  rw [hs, R.bind_ok] at q
  exact q σ H1 (.new s0 kp sm h1 h2 r1)
/-- what may be handed back: nothing lent, nothing of the arguments where the result is new -/
def okRt (W : Wi) (l : List Nat) : Bool := l.all fun j => W.g j != 99 && (!W.fr || W.g j != 0)
theorem okRt_of {Z : Nat → Addr → Prop} (hfr : okRt W l = true) (h2 : ∀ p a, Z p a → p = 99 ∨ Z0 a ∨ H0 a = none) (nw : ∀ p a, p ≠ 0 → p ≠ 99 → Z p a → H0 a = none) {a : Addr} (j : Nat) (hj : j ∈ l) (n : Z (W.g j) a) : (W.fr = false ∧ Z0 a) ∨ H0 a = none := by
  have h := List.all_eq_true.mp hfr j hj
  simp only [Bool.and_eq_true, Bool.or_eq_true, bne_iff_ne, Bool.not_eq_true'] at h
  rcases h.2 with hf | hg
  · rcases h2 _ a n with z | z | z
    · exact absurd z h.1
    · exact .inl ⟨hf, z⟩
    · exact .inr z
  · exact .inr (nw _ a hg h.1 n)
theorem s_ret (he : SE X W a m l) (hfr : okRt W l = true := by rfl) : SS X W H0 Z0 lk (.Return (some a) pos) (sRet m) := by
  refine PS.imp (ps_ret he) fun D σ H ⟨T, Zl, Hb, e, ⟨s0, kp, Z, rt, h1, h2, r⟩, q⟩ => ?_
  unfold sRet at q
  refine tE_go r (fun d hd c o H' sm => by rw [hd] at q; exact (fun z9 => q c o σ H' (s0.trans sm) (z9.mo s0))) (fun hd => by rw [hd] at q; exact q) fun s x H1 hs sm r1 rs => ?_
  rw [hs, R.bind_ok] at q
  refine q x H1 (s0.trans sm) (.of ((rs.back s0).mono fun a n => ?_))
  rcases n with ⟨j, hj, n⟩ | n | n
  · exact okRt_of hfr h2 r.nw j hj n
  · exact .inr (s0.free n)
  · exact .inr (r.root n).1
theorem s_retN : SS X W H0 Z0 lk (.Return none pos) sRetN := PS.imp ps_retN fun D σ H ⟨T, Zl, Hb, e, ⟨s0, kp, Z, rt, h1, h2, r⟩, q⟩ => q (T2 := T) .non H s0 rfl
theorem s_retV (i : Nat) {x : Str} {p : Pos} (hN : X.N[i]? = some x := by rfl) (hv : Vis X.env.scope x := by first | exact Or.inl rfl | exact Or.inr (Or.inl rfl) | exact Or.inr (Or.inr rfl)) (hd : (x == ("__debug__" : Str)) = false := by decide) (hcd : (x == ("__classdict__" : Str)) = false := by decide) (hfr : okRt W [i] = true := by rfl) :
    SS X W H0 Z0 lk (.Return (some (.Name x p)) pos) (sRetV i) := by
  refine PS.imp (ps_ret (pe_var hN hv hd hcd)) fun D σ H ⟨T, Zl, Hb, e, ⟨s0, kp, Z, rt, h1, h2, r⟩, q⟩ => ?_
  unfold sRetV at q
  have up : ∀ a, Z (W.g i) a → (W.fr = false ∧ Z0 a) ∨ H0 a = none := fun a n => okRt_of hfr h2 r.nw i List.mem_cons_self n
  cases ho : e[i]? with
  | none => rw [ho] at q; exact q.elim
  | some o =>
    cases o with
    | none => rw [ho] at q; exact q.elim
    | some s =>
      rw [ho] at q
      cases s with
      | val d =>
        obtain ⟨v, k1, k2⟩ := r.val i d ho
        exact ⟨v, k1, q (T2 := T) v H s0 (k2.mono up)⟩
      | own ds =>
        obtain ⟨k1, k2, k3, xs, k4, k5⟩ := r.own i ds ho
        exact ⟨_, k1, q (T2 := T) _ H s0 ⟨_, xs, rfl, k2, k4, k5.mono fun a z => ⟨up a z, fun w => k3 _ (w ▸ z)⟩⟩⟩
      | dct t kvs => exact q.elim
      | sto _ _ => exact q.elim
      | both _ _ => exact q.elim
theorem s_if {c : Expr} {t : Tx} (hc : ST X W c t) (ha : SB X W H0 Z0 lk body M) (hb : SB X W H0 Z0 lk orelse N) : SS X W H0 Z0 lk (.If c body orelse pos) (sIf t M N) := by
  refine PS.imp (ps_if hc ha hb) fun D σ H ⟨T, Zl, Hb, e, ⟨s0, kp, Z, rt, h1, h2, r⟩, q⟩ => ?_
  unfold sIf at q
  refine tT_go r (fun d hd c o H' sm => by rw [hd] at q; exact (fun z9 => q c o σ H' (s0.trans sm) (z9.mo s0))) (fun hd => by rw [hd] at q; exact q) fun c H1 hs sm r1 => ?_
  rw [hs, R.bind_ok] at q
  have B := Body.new s0 kp sm h1 h2 r1
  cases c with
  | true => exact ⟨T, Zl, Hb, e, B, q⟩
  | false => exact ⟨T, Zl, Hb, e, B, q⟩

/-! loops -/
theorem s_while {c : Expr} {t : Tx} (n : Nat) (hp : PassesOwn (model X.prog X.w) X.A X.env X.xe) (hc : ST X W c t) (hb : SB X W H0 Z0 lk body M) : SS X W H0 Z0 lk (.While c body [] pos) (sWhile n t M) := by
  refine PS.imp (ps_while hp hc hb) fun D σ H ⟨T, Zl, Hb, e, B, q⟩ => ?_
  refine ⟨fun k σ H => ∃ (T : Tkn) (e : En), Body X.K W.g H0 Z0 lk Zl Hb e σ H ∧ Out X.K W H0 Z0 lk Zl Hb D (whileL t M k e), ⟨n, T, e, B, q⟩, ?_⟩
  rintro k σ1 H1 ⟨T, e1, ⟨s0, kp, Z, rt, h1, h2, r⟩, q1⟩
  cases k with
  | zero => exact q1.elim
  | succ k =>
    have q1 : Out X.K W H0 Z0 lk Zl Hb D ((t e1).bind fun b => match b with
      | true => (M e1).bind fun f => match f with
        | .nx e2 => whileL t M k e2
        | .rt s => .ok (.rt s)
      | false => .ok (.nx e1)) := q1
    refine tT_go r (fun d hd c o H' sm => by rw [hd] at q1; exact (fun z9 => q1 c o σ1 H' (s0.trans sm) (z9.mo s0))) (fun hd => by rw [hd] at q1; exact q1) fun b H2 hs sm r1 => ?_
    rw [hs, R.bind_ok] at q1
    have B2 := Body.new (Z0 := Z0) s0 kp sm h1 h2 r1
    cases b with
    | false =>
      rw [if_neg Bool.false_ne_true]
      exact q1 σ1 H2 B2
    | true =>
      rw [if_pos rfl]
      refine ⟨fun σ H => ∃ (T : Tkn) (e : En), Body X.K W.g H0 Z0 lk Zl Hb e σ H ∧ Out X.K W H0 Z0 lk Zl Hb D (whileL t M k e), fun σ' H' h' => ⟨k, Nat.lt_succ_self k, h'⟩, T, Zl, Hb, e1, B2, ?_⟩
      have q1 : Out X.K W H0 Z0 lk Zl Hb D ((M e1).bind fun f => match f with
        | .nx e2 => whileL t M k e2
        | .rt s => .ok (.rt s)) := q1
      cases hm : M e1 with
      | bad => rw [hm] at q1; exact q1.elim
      | ex d => rw [hm] at q1; exact q1
      | ok f =>
        rw [hm, R.bind_ok] at q1
        cases f with
        | rt s => exact @q1
        | nx e2 => exact @fun _ g σ' H' B' => ⟨_, e2, B', Out.mono g q1⟩
theorem s_for {tg iter : Expr} {it : Ax} {al : List Nat} {t : Tt} {ts : List Nat} (pg : Nat) (hp : PassesOwn (model X.prog X.w) X.A X.env X.xe) (hc : X.calm = true) (hi : SI X W tg iter it al) (hg : SG X W.g pg tg t ts) (hb : SB X W H0 Z0 (pg :: lk) body M) (hs : ∀ x, foldedSetIterable iter X.env x = pure x := by intro _; rfl) (hal : allg W.g pg al = true := by rfl) :
    SS X W H0 Z0 lk (.For tg iter body [] pos) (sFor al it t M) := by
  refine PS.imp (ps_for hp hc hi hg.pg hb hs) fun D σ H ⟨T, Zl, Hb, e, ⟨s0, kp, Z, rt, h1, h2, r⟩, q⟩ => ?_
  have hal := allg_of hal
  unfold sFor at q
  refine ⟨T, _, Z, rt, e, r, ?_⟩
  cases hit : it e with
  | bad => rw [hit] at q; exact q.elim
  | ex d => rw [hit] at q; exact fun c o H' sm => (fun z9 => q c o σ H' (s0.trans sm) (z9.mo s0))
  | ok ds =>
    rw [hit, R.bind_ok] at q
    intro J H1 sm ir
    have igo := ir.go
    have iyld := ir.yld
    have istop := ir.stop
    -- what is walked is held from here on
    let ZG : Nat → Addr → Prop := ZN pg Z e rt al H H1 fun _ => False
    let Zn : Nat → Addr → Prop := fun p a => Zl p a ∨ (p = pg ∧ ZG pg a)
    have r1 : Rel X.K (fun a => H0 a = none) W.g ZG rt (freeze al e) σ H1 := r.grow sm pg al hal _
    have zn : ∀ p a, ZG p a → p = 99 ∨ Z0 a ∨ H0 a = none := fun p a z => by
      rcases z with z | ⟨_, ⟨z, _⟩ | z⟩
      · exact h2 p a z
      · exact .inr (.inr (s0.free z))
      · exact .inr (.inr (r.root z).1)
    have zh : ∀ p a, Zn p a → p ∈ pg :: lk ∧ ZG p a := fun p a z => by
      rcases z with z | ⟨rfl, z⟩
      · exact ⟨List.mem_cons_of_mem _ (h1 p a z).1, .inl (h1 p a z).2⟩
      · exact ⟨List.mem_cons_self, z⟩
    have z1 : ∀ a, (NZ W.g Z e rt al H a ∧ H1 a ≠ none) → ZG pg a := fun a ⟨n, k⟩ => zn_sub hal n (fun z => z) k
    have kpn : ∀ {H2 : Hp}, Kp (fun a => ∃ p, Zn p a) H1 H2 → Kp (fun a => NZ W.g Z e rt al H a ∧ H1 a ≠ none) H1 H2 := fun k => ⟨fun a xs n h => k.1 a xs ⟨pg, .inr ⟨rfl, z1 a n⟩⟩ h, k.2⟩
    have kpl : ∀ {H2 : Hp}, Kp (fun a => ∃ p, Zn p a) H1 H2 → Kp (fun a => ∃ p, Zl p a) Hb.1 H2 := fun k => kp.k.trans ((same_kp sm).trans ⟨fun a xs ⟨p, z⟩ h => k.1 a xs ⟨p, .inl z⟩ h, k.2⟩)
    -- behind the loop what was held ahead of it is held
    have weak : ∀ {T2 : Tkn} {e' : En} {σ' : L2.St} {H' : Hp}, Body X.K W.g H0 Z0 (pg :: lk) Zn (H1, T) e' σ' H' → Body X.K W.g H0 Z0 lk Zl Hb e' σ' H' := fun ⟨a1, a2, Z', rt', a3, a4, a5⟩ => ⟨a1, ⟨kpl a2.k, kp.t.trans a2.t⟩, Z', rt', fun p a z => ⟨(h1 p a z).1, (a3 p a (.inl z)).2⟩, a4, a5⟩
    refine ⟨fun i k σ H => k = ds.length - i ∧ i ≤ ds.length ∧ ∃ (T2 : Tkn) (e : En), Body X.K W.g H0 Z0 (pg :: lk) Zn (H1, T) e σ H ∧ Out X.K W H0 Z0 lk Zl Hb D (forL t M (ds.drop i) e), ⟨ds.length, by simp, Nat.zero_le _, T, _, ⟨s0.trans sm, KT.refl, ZG, rt, zh, zn, r1⟩, q⟩, ?_⟩
    rintro i k σ2 H2 ⟨rfl, hil, T2, e2, ⟨a1, a2, Z', rt', a3, a4, a5⟩, q2⟩
    by_cases hlt : i < ds.length
    · have hd : ds[i]? = some ds[i] := List.getElem?_eq_getElem hlt
      rw [List.drop_eq_getElem_cons hlt] at q2
      have q2 : Out X.K W H0 Z0 lk Zl Hb D ((t ds[i] e2).bind fun e' => (M e').bind fun f => match f with
        | .nx e3 => forL t M (ds.drop (i + 1)) e3
        | .rt s => .ok (.rt s)) := q2
      refine .inr ⟨igo i H2 (kpn a2.k) hlt, fun σ H => ∃ (T2 : Tkn) (e : En), Body X.K W.g H0 Z0 (pg :: lk) Zn (H1, T) e σ H ∧ Out X.K W H0 Z0 lk Zl Hb D (forL t M (ds.drop (i + 1)) e), fun σ' H' h' => ⟨ds.length - (i + 1), by omega, rfl, hlt, h'⟩, fun x H3 hy => ?_⟩
      obtain ⟨sm3, rx⟩ := iyld i H2 x H3 ds[i] (kpn a2.k) hd hy
      refine ⟨T2, _, Z', rt', e2, ds[i], a5.ext sm3, Rep.tok a2.t _ _ (rx.mono fun a z => (a3 pg a (.inr ⟨rfl, z1 a z⟩)).2), ?_⟩
      cases ht : t ds[i] e2 with
      | bad => rw [ht] at q2; exact q2.elim
      | ex d => exact (hg.nx ds[i] e2 d ht).elim
      | ok e3 =>
        rw [ht, R.bind_ok] at q2
        intro σ3 r3 _
        have B3 : Body X.K W.g H0 Z0 (pg :: lk) Zn (H1, T) e3 σ3 H3 := ⟨a1.trans sm3, a2.trans (same_kp sm3), Z', rt', a3, a4, r3⟩
        refine ⟨_, Zn, (H1, T), e3, B3, ?_⟩
        cases hm : M e3 with
        | bad => rw [hm] at q2; exact q2.elim
        | ex d => rw [hm] at q2; exact q2
        | ok f =>
          rw [hm, R.bind_ok] at q2
          cases f with
          | rt s => exact @q2
          | nx e4 => exact @fun _ g σ' H' B' => ⟨_, e4, B', Out.mono g q2⟩
    · have ei : i = ds.length := by omega
      refine .inl ⟨istop i H2 (kpn a2.k) (by omega) (by omega), ?_⟩
      rw [ei, List.drop_length] at q2
      exact q2 σ2 H2 (weak ⟨a1, a2, Z', rt', a3, a4, a5⟩)
end
end Tg

/-! Tg, part 12: changes of owned lists, methods, further walks, calls, defs. -/
namespace Tg
open PySem PySem.Spec PyProof.Rows L2

section
variable {X : Cx} {W : Wi} {H0 : Hp} {Z0 : Addr → Prop} {lk : List Nat} {a b : Expr} {m n : Ex} {l k : List Nat} {pos : Pos}
/-- a method that changes a list: by values and by data -/
def MtOk (r : V → List V → Hp → VK → Prop) (f : List D → D → R (List D)) : Prop := ∀ {T : Tkn} (K : PySem.W.Frag) (N : Addr → Prop) (H : Hp) (q : Addr) (xs : List V) (ds ds' : List D) (d : D) (y : V) (Q : VK), H q = some (.lst xs) → RepL K N H ds xs → Rep K N H d y → ¬ N q → f ds d = .ok ds' →
  (∀ xs', RepL K N H ds' xs' → Q .non (upd H q (.lst xs'))) → r (.ref q) [y] H Q
theorem mo_append : MtOk rAppend fAppend := by
  intro T K N H q xs ds ds' d y Q hq r rd _ hf k
  unfold fAppend at hf
  split at hf
  · rename_i hl
    cases hf
    exact ⟨q, xs, y, rfl, rfl, hq, by rw [r.length]; exact Nat.lt_of_le_of_lt hl (by decide), k _ (r.append (RepL.one rd))⟩
  · cases hf
theorem mo_extend : MtOk rExtend fExtend := by
  intro T K N H q xs ds ds' d y Q hq r rd nq hf k
  cases d <;> first | cases hf | skip
  rename_i es
  obtain ⟨b, zs, rfl, s2, r2⟩ := rd
  have hf : (if ds.length + es.length ≤ LIM then R.ok (ds ++ es) else .bad) = .ok ds' := hf
  split at hf
  · rename_i hl
    cases hf
    exact ⟨q, b, xs, zs, rfl, rfl, hq, s2.2, by rw [r.length, r2.length]; exact lim_line hl, k _ (r.append r2)⟩
  · cases hf
/-- behind a write of what stands at a slot's root -/
theorem Body.wrR {T : Tkn} {K : PySem.W.Frag} {G : Nat → Nat} {Zl : Nat → Addr → Prop} {Hb : Hp × Tkn} {e : En} {σ : L2.St} {H H1 : Hp} {Z : Nat → Addr → Prop} {rt : Nat → Addr} {i : Nat} {s u : S} {o : HO} (s0 : Same H0 H) (kp : KT (fun a => ∃ p, Zl p a) Hb T H) (sm : Same H H1) (h1 : ∀ p a, Zl p a → p ∈ lk ∧ Z p a) (h2 : ∀ p a, Z p a → p = 99 ∨ Z0 a ∨ H0 a = none)
    (r : Rel K (fun a => H0 a = none) G Z rt e σ H1) (hi : e[i]? = some (some s)) (hs : s.rooted) (st : Still H1 (upd H1 (rt i) o)) (rr : Rel K (fun a => H0 a = none) G Z rt (e.set i (some u)) σ (upd H1 (rt i) o)) : Body K G H0 Z0 lk Zl Hb (e.set i (some u)) σ (upd H1 (rt i) o) := by
  obtain ⟨j1, j3, j2⟩ := r.live hi hs
  refine ⟨fun b u z => ?_, ?_, Z, rt, h1, h2, rr⟩
  · have nb : b ≠ rt i := fun w => by
      subst w
      have j2' : H0 (rt i) = none := j2
      rw [j2'] at z
      cases z
    rw [upd_ne nb]
    exact (s0.trans sm) _ _ z
  · refine (kp.trans (same_kp sm)).trans ⟨fun a zs ⟨p, z⟩ w => ?_, st⟩
    rw [upd_ne (fun y => j3 p (by rw [← y]; exact (h1 p a z).2))]
    exact w
/-- behind a write of an owned list -/
theorem Body.wr {T : Tkn} {K : PySem.W.Frag} {G : Nat → Nat} {Zl : Nat → Addr → Prop} {Hb : Hp × Tkn} {e : En} {σ : L2.St} {H H1 : Hp} {Z : Nat → Addr → Prop} {rt : Nat → Addr} {i : Nat} {ds ds' : List D} {xs' : List V} (s0 : Same H0 H) (kp : KT (fun a => ∃ p, Zl p a) Hb T H) (sm : Same H H1) (h1 : ∀ p a, Zl p a → p ∈ lk ∧ Z p a) (h2 : ∀ p a, Z p a → p = 99 ∨ Z0 a ∨ H0 a = none)
    (r : Rel K (fun a => H0 a = none) G Z rt e σ H1) (hi : e[i]? = some (some (.own ds))) (rr : RepL K (Z (G i)) H1 ds' xs') : Body K G H0 Z0 lk Zl Hb (e.set i (some (.own ds'))) σ (upd H1 (rt i) (.lst xs')) := by
  obtain ⟨j1, j2, j3, ys, j4, j5⟩ := r.own i ds hi
  exact Body.wrR s0 kp sm h1 h2 r hi trivial (still_lst j4) (r.write hi rr)
/-- x.m(e): slot i's own list is changed -/
theorem own_sim {r : V → List V → Hp → VK → Prop} {f : List D → D → R (List D)} (fo : ∀ ds d e, f ds d ≠ .ex e) (o : MtOk r f) {i : Nat} (hl : ∀ j ∈ l, W.g j = W.g i) (D : Ends) (σ : L2.St) (H : Hp) (q : tS X.K W H0 Z0 lk (sOwn l i f m) D σ H) :
    tDrop (tBM X.K "list" r (tVar i) (tCons (tE X.K W m l) tNil)) D σ H := by
  obtain ⟨T, Zl, Hb, e, ⟨s0, kp, Z, rt, h1, h2, r0⟩, q⟩ := q
  unfold sOwn at q
  cases hi : e[i]? with
  | none => rw [hi] at q; exact q.elim
  | some oo =>
    cases oo with
    | none => rw [hi] at q; exact q.elim
    | some ss =>
      cases ss with
      | val d => rw [hi] at q; exact q.elim
      | dct t kvs => rw [hi] at q; exact q.elim
      | sto _ _ => rw [hi] at q; exact q.elim
      | both _ _ => rw [hi] at q; exact q.elim
      | own es =>
        simp only [hi] at q
        obtain ⟨k1, k2, k3, xs, k4, k5⟩ := r0.own i es hi
        refine ⟨_, k1, .inl ⟨rfl, xs, .inl (.inl k4)⟩, ?_⟩
        refine tE_go r0 (fun d hd c o H' sm => by rw [hd] at q; exact (fun z9 => q c o σ H' (s0.trans sm) (z9.mo s0))) (fun hd => by rw [hd] at q; exact q) fun s x H1 hs sm r1 rs => ?_
        rw [hs, R.bind_ok] at q
        obtain ⟨Z', z1, z2, r', rx⟩ := r0.hold sm rs (W.g i) hl
        cases hj : (keep l s.flat e)[i]? with
        | none => rw [hj] at q; exact q.elim
        | some oo =>
          cases oo with
          | none => rw [hj] at q; exact q.elim
          | some ss =>
            cases ss with
            | val d => rw [hj] at q; exact q.elim
            | dct t kvs => rw [hj] at q; exact q.elim
            | sto _ _ => rw [hj] at q; exact q.elim
            | both _ _ => rw [hj] at q; exact q.elim
            | own ds =>
              simp only [hj] at q
              cases hf : f ds s.d with
              | bad => rw [hf] at q; exact q.elim
              | ex d => exact (fo _ _ _ hf).elim
              | ok ds' =>
                rw [hf, R.bind_ok] at q
                obtain ⟨j1, j2, j3, ys, j4, j5⟩ := r'.own i ds hj
                refine o X.K (Z' (W.g i)) H1 (rt i) ys ds ds' s.d x _ j4 j5 rx (j3 _) hf fun xs' rr => ?_
                exact q σ _ (Body.wr s0 kp sm (up1 h1 z1) (up2 h2 z2) r' hj rr)
variable {apos cpos p2 epos : Pos} {x : Str}
theorem nx_append : ∀ ds d e, fAppend ds d ≠ .ex e := fun ds d e h => by
  unfold fAppend at h
  split at h <;> cases h
theorem nx_extend : ∀ ds d e, fExtend ds d ≠ .ex e := fun ds d e h => by
  unfold fExtend at h
  split at h <;> (try split at h) <;> cases h
theorem s_append (i : Nat) (ha : SE X W a m l) (hN : X.N[i]? = some x := by rfl) (hv : Vis X.env.scope x := by first | exact Or.inl rfl | exact Or.inr (Or.inl rfl) | exact Or.inr (Or.inr rfl)) (hd : (x == ("__debug__" : Str)) = false := by decide) (hcd : (x == ("__classdict__" : Str)) = false := by decide)
    (hbase : attributeBase (.Name x p2) "append" X.env (eval (.Name x p2) X.env) = eval (.Name x p2) X.env := by rfl)
    (hfew : ((backTo cpos (starEach [a] X.env)).all (fun x => !x.1) && (backToKw cpos (keywordEach [] X.env)).all (fun x => x.1.isSome) && decide ([a].length + ([] : List Keyword).length + (if ([] : List Keyword).isEmpty then 0 else 1) < 30)) = true := by rfl)
    (hline : (apos.endLine == cpos.line) = true := by rfl) (hs : starEach [a] X.env = (false, eval a X.env) :: starEach [] X.env := by rfl) (hplain : (backTo cpos (starEach ([] : List Expr) X.env)).any (·.1) = false := by rfl)
    (hsw : swapsWith (.Call (.Attribute (.Name x p2) "append" apos) [a] [] cpos) none epos.line X.env = pure false := by rfl) (hl : allg W.g (W.g i) l = true := by rfl) :
    SS X W H0 Z0 lk (.Expr (.Call (.Attribute (.Name x p2) "append" apos) [a] [] cpos) epos) (sOwn l i fAppend m) :=
  PS.imp (ps_expr (pe_bm PySem.F.plainAttrs_list PySem.F.slot_list_append PySem.F.type_list_append mt_append (pe_var hN hv hd hcd) (pa_cons ha pa_nil hs) hbase hfew hline hs hplain) hsw) (own_sim nx_append mo_append (allg_of hl))
theorem s_extend (i : Nat) (ha : SE X W a m l) (hN : X.N[i]? = some x := by rfl) (hv : Vis X.env.scope x := by first | exact Or.inl rfl | exact Or.inr (Or.inl rfl) | exact Or.inr (Or.inr rfl)) (hd : (x == ("__debug__" : Str)) = false := by decide) (hcd : (x == ("__classdict__" : Str)) = false := by decide)
    (hbase : attributeBase (.Name x p2) "extend" X.env (eval (.Name x p2) X.env) = eval (.Name x p2) X.env := by rfl)
    (hfew : ((backTo cpos (starEach [a] X.env)).all (fun x => !x.1) && (backToKw cpos (keywordEach [] X.env)).all (fun x => x.1.isSome) && decide ([a].length + ([] : List Keyword).length + (if ([] : List Keyword).isEmpty then 0 else 1) < 30)) = true := by rfl)
    (hline : (apos.endLine == cpos.line) = true := by rfl) (hs : starEach [a] X.env = (false, eval a X.env) :: starEach [] X.env := by rfl) (hplain : (backTo cpos (starEach ([] : List Expr) X.env)).any (·.1) = false := by rfl)
    (hsw : swapsWith (.Call (.Attribute (.Name x p2) "extend" apos) [a] [] cpos) none epos.line X.env = pure false := by rfl) (hl : allg W.g (W.g i) l = true := by rfl) :
    SS X W H0 Z0 lk (.Expr (.Call (.Attribute (.Name x p2) "extend" apos) [a] [] cpos) epos) (sOwn l i fExtend m) :=
  PS.imp (ps_expr (pe_bm PySem.F.plainAttrs_list PySem.F.slot_list_extend PySem.F.type_list_extend mt_extend (pe_var hN hv hd hcd) (pa_cons ha pa_nil hs) hbase hfew hline hs hplain) hsw) (own_sim nx_extend mo_extend (allg_of hl))
/-- x[k] = v -/
theorem s_item (i : Nat) {kx : Expr} {tpos : Pos} (ha : SE X W a m l) (hk : SE X W kx n k) (hN : X.N[i]? = some x := by rfl) (hv : Vis X.env.scope x := by first | exact Or.inl rfl | exact Or.inr (Or.inl rfl) | exact Or.inr (Or.inr rfl)) (hd : (x == ("__debug__" : Str)) = false := by decide) (hcd : (x == ("__classdict__" : Str)) = false := by decide)
    (hs : swapsWithSole [.Subscript (.Name x p2) kx tpos] a pos.line X.env = pure false := by rfl) (hw : swappedStores [.Subscript (.Name x p2) kx tpos] a X.env = pure none := by rfl) (h1 : (assignEach [.Subscript (.Name x p2) kx tpos] X.env).map (·.2) = [assign (.Subscript (.Name x p2) kx tpos) X.env] := by rfl)
    (hsub : ∀ v, assign (.Subscript (.Name x p2) kx tpos) X.env v = (do let ov ← holding [v] (eval (.Name x p2) X.env); let iv ← holding [v, ov] (eval kx X.env); standAt tpos; holding [v, ov, iv] (setItem ov iv v); release [v, ov, iv] []) := by intro _; rfl) (hl : allg W.g (W.g i) l = true := by rfl) :
    SS X W H0 Z0 lk (.Assign [.Subscript (.Name x p2) kx tpos] a pos) (sItem l i m n) := by
  refine PS.imp (ps_asg ha (pg_sub (pe_var hN hv hd hcd) hk set_list hsub) hs hw h1) fun D σ H ⟨T, Zl, Hb, e, ⟨s0, kp, Z, rt, h1, h2, r0⟩, q⟩ => ?_
  unfold sItem at q
  refine tE_go r0 (fun d hd c o H' sm => by rw [hd] at q; exact (fun z9 => q c o σ H' (s0.trans sm) (z9.mo s0))) (fun hd => by rw [hd] at q; exact q) fun s v H1 hs sm r1 rs => ?_
  rw [hs, R.bind_ok] at q
  obtain ⟨Z', z1, z2, r', rx⟩ := r0.hold sm rs (W.g i) (allg_of hl)
  split at q
  · rename_i j ds hn hj
    obtain ⟨j1, j2, j3, ys, j4, j5⟩ := r'.own i ds hj
    refine ⟨_, j1, ?_⟩
    refine tE_go r1 (fun d hd => by rw [hn] at hd; cases hd) (fun hd => by rw [hn] at hd; cases hd) fun s2 kv H2 hs2 sm2 r2 rs2 => ?_
    rw [hn] at hs2
    cases hs2
    obtain rfl : kv = .int j := rs2
    have r2' := r'.ext sm2
    obtain ⟨_, _, _, ys, j4, j5⟩ := r2'.own i ds hj
    cases hx : ixN ds.length j with
    | none => rw [hx] at q; exact q.elim
    | some g =>
      simp only [hx] at q
      refine ⟨rt i, ys, j, g, rfl, rfl, j4, by rw [j5.length]; exact hx, ?_⟩
      exact q σ _ (Body.wr s0 kp (sm.trans sm2) (up1 h1 z1) (up2 h2 z2) r2' hj (j5.set g (rx.same sm2)))
  · exact q.elim
/-- xs[k], of a list that is written -/
def rGetL : V → V → Hp → VK → Prop := fun o i H Q => ∃ p xs k v, o = .ref p ∧ i = .int k ∧ H p = some (.lst xs) ∧ 0 ≤ k ∧ xs[k.toNat]? = some v ∧ Q v H
theorem get_list : PGet X rGetL := by
  intro pins s σ H o i ov iv Q I ro ri h
  obtain ⟨p, xs, k, v, rfl, rfl, hp, h0, hv, q⟩ := h
  cases ro
  obtain ⟨t, rfl⟩ := ri
  obtain ⟨its, rv, pl, hz⟩ := I.list (xs := xs) (.inl (.inl hp))
  obtain ⟨u, hu, ru⟩ := rv.get hv
  have hk := (List.getElem?_eq_some_iff.mp hv).1
  have sl : sizeLine = 16777216 := by decide
  exact wpAny_getItem_list pl.isList h0 (by omega) (by simpa using hu) ⟨v, H, I, ru, q⟩
theorem ixN_pos {n : Nat} {j : Int} {g : Nat} (h0 : 0 ≤ j) (h : ixN n j = some g) : j.toNat = g := by
  unfold L2.ixN at h
  rw [if_pos h0] at h
  split at h
  · exact Option.some.inj h
  · cases h
theorem s_aug (i : Nat) {kx : Expr} {tpos : Pos} (ha : SE X W a m l) (hk : SE X W kx n k) (hN : X.N[i]? = some x := by rfl) (hv : Vis X.env.scope x := by first | exact Or.inl rfl | exact Or.inr (Or.inl rfl) | exact Or.inr (Or.inr rfl)) (hd : (x == ("__debug__" : Str)) = false := by decide) (hcd : (x == ("__classdict__" : Str)) = false := by decide)
    (hst : ∀ ov iv new, augStore kx ov iv new = (do holding [new, ov, iv] (setItem ov iv new); release [new, ov, iv] []; pure .next) := by intros; rfl) :
    SS X W H0 Z0 lk (.AugAssign (.Subscript (.Name x p2) kx tpos) .Add a pos) (sAug i m n) := by
  refine PS.imp (ps_augS (pe_var hN hv hd hcd) hk get_list ha ip_add set_list hst) fun D σ H ⟨T, Zl, Hb, e, ⟨s0, kp, Z, rt, h1, h2, r0⟩, q⟩ => ?_
  unfold sAug at q
  split at q
  · rename_i j ds hn hj
    obtain ⟨j1, j2, j3, ys, j4, j5⟩ := r0.own i ds hj
    refine ⟨_, j1, ?_⟩
    refine tE_go r0 (fun d hd => by rw [hn] at hd; cases hd) (fun hd => by rw [hn] at hd; cases hd) fun s2 kv H2 hs2 sm2 r2 rs2 => ?_
    rw [hn] at hs2
    cases hs2
    obtain rfl : kv = .int j := rs2
    cases hx : ixN ds.length j with
    | none => rw [hx] at q; exact q.elim
    | some g =>
      simp only [hx] at q
      split at q
      · rename_i u v hu hv2
        by_cases h0 : 0 ≤ j
        case neg => rw [if_neg h0] at q; exact q.elim
        rw [if_pos h0] at q
        obtain ⟨y, hy, ry⟩ := j5.get hu
        obtain rfl : y = .int u := ry
        refine ⟨rt i, ys, j, .int u, rfl, rfl, sm2 _ _ j4, h0, by rw [ixN_pos h0 hx]; exact hy, ?_⟩
        refine tE_go r2 (fun d hd => by rw [hv2] at hd; cases hd) (fun hd => by rw [hv2] at hd; cases hd) fun s3 w H3 hs3 sm3 r3 rs3 => ?_
        rw [hv2] at hs3
        cases hs3
        obtain rfl : w = .int v := rs3
        obtain ⟨_, _, _, zs, g4, g5⟩ := r3.own i ds hj
        refine ⟨u, v, rfl, rfl, rt i, zs, j, g, rfl, rfl, g4, by rw [g5.length]; exact hx, ?_⟩
        exact q σ _ (Body.wr s0 kp (sm2.trans sm3) h1 h2 r3 hj (g5.set g rfl))
      · exact q.elim
  · exact q.elim
/-- x.clear() -/
theorem s_clear (i : Nat) (hN : X.N[i]? = some x := by rfl) (hv : Vis X.env.scope x := by first | exact Or.inl rfl | exact Or.inr (Or.inl rfl) | exact Or.inr (Or.inr rfl)) (hd : (x == ("__debug__" : Str)) = false := by decide) (hcd : (x == ("__classdict__" : Str)) = false := by decide)
    (hbase : attributeBase (.Name x p2) "clear" X.env (eval (.Name x p2) X.env) = eval (.Name x p2) X.env := by rfl) (hline : (apos.endLine == cpos.line) = true := by rfl)
    (hsw : swapsWith (.Call (.Attribute (.Name x p2) "clear" apos) [] [] cpos) none epos.line X.env = pure false := by rfl) :
    SS X W H0 Z0 lk (.Expr (.Call (.Attribute (.Name x p2) "clear" apos) [] [] cpos) epos) (sClear i) := by
  refine PS.imp (ps_expr (pe_bm0 PySem.F.plainAttrs_list PySem.F.slot_list_clear PySem.F.type_list_clear mt_clear (pe_var hN hv hd hcd) hbase hline) hsw) fun D σ H ⟨T, Zl, Hb, e, ⟨s0, kp, Z, rt, h1, h2, r0⟩, q⟩ => ?_
  unfold sClear at q
  split at q
  · rename_i ds hj
    obtain ⟨j1, j2, j3, ys, j4, j5⟩ := r0.own i ds hj
    exact ⟨_, j1, .inl ⟨rfl, ys, .inl (.inl j4)⟩, rt i, ys, rfl, rfl, j4, q σ _ (Body.wr s0 kp (Same.refl H) h1 h2 r0 hj RepL.nil)⟩
  · exact q.elim
theorem s_insert (i : Nat) {kx : Expr} (hk : SE X W kx n []) (ha : SE X W a m l) (hN : X.N[i]? = some x := by rfl) (hv : Vis X.env.scope x := by first | exact Or.inl rfl | exact Or.inr (Or.inl rfl) | exact Or.inr (Or.inr rfl)) (hd : (x == ("__debug__" : Str)) = false := by decide) (hcd : (x == ("__classdict__" : Str)) = false := by decide)
    (hbase : attributeBase (.Name x p2) "insert" X.env (eval (.Name x p2) X.env) = eval (.Name x p2) X.env := by rfl)
    (hfew : ((backTo cpos (starEach [kx, a] X.env)).all (fun x => !x.1) && (backToKw cpos (keywordEach [] X.env)).all (fun x => x.1.isSome) && decide ([kx, a].length + ([] : List Keyword).length + (if ([] : List Keyword).isEmpty then 0 else 1) < 30)) = true := by rfl)
    (hline : (apos.endLine == cpos.line) = true := by rfl) (hs : starEach [kx, a] X.env = (false, eval kx X.env) :: starEach [a] X.env := by rfl) (hs2 : starEach [a] X.env = (false, eval a X.env) :: starEach [] X.env := by rfl) (hplain : (backTo cpos (starEach [a] X.env)).any (·.1) = false := by rfl)
    (hsw : swapsWith (.Call (.Attribute (.Name x p2) "insert" apos) [kx, a] [] cpos) none epos.line X.env = pure false := by rfl) (hl : allg W.g (W.g i) l = true := by rfl) :
    SS X W H0 Z0 lk (.Expr (.Call (.Attribute (.Name x p2) "insert" apos) [kx, a] [] cpos) epos) (sInsert l i n m) := by
  refine PS.imp (ps_expr (pe_bm PySem.F.plainAttrs_list PySem.F.slot_list_insert PySem.F.type_list_insert mt_insert (pe_var hN hv hd hcd) (pa_cons hk (pa_cons ha pa_nil hs2) hs) hbase hfew hline hs hplain) hsw) fun D σ H ⟨T, Zl, Hb, e, ⟨s0, kp, Z, rt, h1, h2, r0⟩, q⟩ => ?_
  unfold sInsert at q
  split at q
  case h_2 => exact q.elim
  rename_i nn es hn hi
  obtain ⟨k1, k2, k3, xs, k4, k5⟩ := r0.own i es hi
  refine ⟨_, k1, .inl ⟨rfl, xs, .inl (.inl k4)⟩, ?_⟩
  refine tE_go r0 (fun d hd => by rw [hn] at hd; cases hd) (fun hd => by rw [hn] at hd; cases hd) fun s2 kv H2 hs2 sm2 r2 rs2 => ?_
  rw [hn] at hs2
  cases hs2
  obtain rfl : kv = .int nn := rs2
  refine tE_go r2 (fun d hd c o H' sm => by rw [hd] at q; exact (fun z9 => q c o σ H' ((s0.trans sm2).trans sm) (z9.mo (s0.trans sm2)))) (fun hd => by rw [hd] at q; exact q) fun s v H3 hs sm3 r3 rs => ?_
  rw [hs, R.bind_ok] at q
  obtain ⟨Z', z1, z2, r', rx⟩ := r2.hold sm3 rs (W.g i) (allg_of hl)
  split at q
  case h_2 => exact q.elim
  rename_i ds hj
  split at q
  case isFalse => exact q.elim
  rename_i hb
  obtain ⟨j1, j2, j3, ys, j4, j5⟩ := r'.own i ds hj
  refine ⟨rt i, ys, nn, v, rfl, rfl, j4, by rw [j5.length]; exact Nat.lt_of_le_of_lt hb.2.2 (by decide), hb.1, by omega, ?_⟩
  exact q σ _ (Body.wr s0 kp (sm2.trans sm3) (up1 h1 z1) (up2 h2 z2) r' hj (((j5.take _).append (RepL.one rx)).append (j5.drop _)))
end
end Tg

/-! Tg, part 13: calls and defs; methods of texts and lists; ranges as values; zip, enumerate; isinstance. -/
namespace Tg
open PySem PySem.Spec PyProof.Rows L2

theorem Rel.tok {T : Tkn} {K : PySem.W.Frag} {B : Addr → Prop} {G : Nat → Nat} {Z : Nat → Addr → Prop} {rt : Nat → Addr} {e : En} {σ : L2.St} {H : Hp} (r : Rel K B G Z rt e σ H) : TokOk T H := ⟨fun k a q => (r.tks k a q).1, r.tki⟩
/-- what a call's pure run is for -/
def OkF [T : Tkn] (K : PySem.W.Frag) (xr : Hp → D → Value → Option Addr → Hp → Prop) (N : Addr → Prop) (H : Hp) (Q : VK) (E : XK) : R S → Prop
  | .ok s => ∀ x H', Same H H' → RepS K (fun a => N a ∨ H a = none) H H' s x → Q x H'
  | .ex d => ∀ c o H', Same H H' → XC xr H d c o H' → E c o H'
  | .bad => False
/-- a def's promise: it does what the pure function does -/
def spF (K : PySem.W.Frag) (xr : Hp → D → Value → Option Addr → Hp → Prop) (fr : Bool) (F : List D → R S) (n : Nat) : Sp := fun vs H Q E => ∃ (T : Tkn) (N : Addr → Prop) (ds : List D), TokOk T H ∧ vs.length = n ∧ RepL K N H ds vs ∧ OkF K xr (fun a => fr = false ∧ N a) H Q E (F ds)

section
variable {X : Cx} {W : Wi} {x : Str} {e : Expr} {es : List Expr} {m : Ax} {l : List Nat} {p pos : Pos} {f : Addr} {fd : FuncData} {ps : List Str} {k n : Nat} {F : List D → R S} {xr : Hp → D → Value → Option Addr → Hp → Prop}
theorem x_callG {fr : Bool} {lr : List Nat} (hlr : fr = true ∨ ∀ j ∈ l, j ∈ lr) (G : FnOk X.prog X.w X.K X.mg X.base (L2.CX X.prog X.w) k f fd ps (spF X.K xr fr F n)) (hr : Room k X.A) (hm : X.mg x = some (.ref f)) (kp : PySem.W.keepIn X.K (.ref f) = true) (hb : Binds X.K fd ps []) (tk : Takes X W.w) (hxr : ∀ H0 d c o H, xr H0 d c o H → W.xr H0 d c o H) (ha : SA X W (e :: es) m l)
    (hl : ∀ e ds, m e = .ok ds → ds.length = n) (hg : Gl X x := by rfl) (hdb : (x == ("__debug__" : Str)) = false := by decide) (he : starEach (e :: es) X.env = (false, eval e X.env) :: starEach es X.env := by rfl) (hpl : (backTo pos (starEach es X.env)).any (·.1) = false := by rfl) :
    SE X W (.Call (.Name x p) (e :: es) [] pos) (eCall F m) lr := by
  refine PE.imp (pe_callS G hr hg hm kp hb (fun σ => passAt tk σ) ha hdb he hpl) fun σ H Q ⟨T, B, Z, rt, en, r, q⟩ => ?_
  unfold eCall at q
  refine tA_go r (fun d hd => by rw [hd] at q; exact q) (fun hd => by rw [hd] at q; exact q) fun ds xs H1 hs sm r1 rs => ?_
  rw [hs, R.bind_ok] at q
  refine ⟨T, NZ W.g Z en rt l H, ds, r1.tok, by rw [rs.length]; exact hl en ds hs, rs, ?_⟩
  cases hF : F ds with
  | bad => rw [hF] at q; exact q.elim
  | ex d =>
    rw [hF] at q
    exact fun c o H' sm' h => q c o H' (sm.trans sm') ((h.imp hxr).mo sm)
  | ok s =>
    rw [hF] at q
    refine fun v H' sm' rv => q v H' (sm.trans sm') ((rv.back sm).mono fun a n => ?_)
    rcases n with ⟨hf, n⟩ | n
    · rcases hlr with h | h
      · rw [hf] at h; cases h
      · exact NZ.mono h n
    · exact .inr (.inl (sm.free n))
end

section
variable {P : Program} {w : World} {K : PySem.W.Frag} {mg : Str → Option Value} {base : Heap} {xr : Hp → D → Value → Option Addr → Hp → Prop}
theorem repL_alloc {T : Tkn} {N : Addr → Prop} {H : Hp} {ds : List D} {xs : List V} (r : RepL K N H ds xs) : RepL K (fun a => N a ∧ H a ≠ none) H ds xs := RepL.imp (fun a ys n h => ⟨⟨n, by rw [h]; exact nofun⟩, h⟩) (Still.refl H) ds xs r
theorem start_rel {T : Tkn} {N : List Str} {G : Nat → Nat} {Z : Addr → Prop} {H : Hp} {ds : List D} {vs : List V} (hG : ∀ i, i < ds.length → G i = 0) (rt : Nat → Addr) (r : RepL K Z H ds vs) (hz : ∀ a, Z a → H a ≠ none) (ht : TokOk T H) : Rel K (fun a => H a = none) G (fun p a => p = 0 ∧ Z a) rt (ds.map (fun d => some (.val d)) ++ List.replicate (N.length - ds.length) none) (start N vs) H := by
  have no : ∀ (i : Nat) (s : S), (ds.map (fun d => some (S.val d)) ++ List.replicate (N.length - ds.length) none)[i]? = some (some s) → ∃ d, ds[i]? = some d ∧ s = .val d := fun i s h => by
    by_cases hi : i < ds.length
    · rw [List.getElem?_append_left (by simpa using hi), List.getElem?_map, List.getElem?_eq_getElem hi] at h
      cases h
      exact ⟨_, List.getElem?_eq_getElem hi, rfl⟩
    · rw [List.getElem?_append_right (by simpa using hi), List.getElem?_replicate] at h
      split at h <;> cases h
  refine ⟨?_, fun i d h => ?_, fun i es h => ?_, fun i t kvs h => ?_, fun i j s u h1 h2 r1 r2 => ?_, fun p a z => hz a z.2, fun p q a z1 z2 => z1.1.trans z2.1.symm, fun p a hp _ z => absurd z.1 hp, fun a h => h, fun i m os h => ?_, fun k a h => ⟨ht.1 k a h, fun i s h1 h2 => ?_⟩, ht.2, fun i j s u h1 h2 k1 k2 => ?_⟩
  · unfold L2.start
    simp only [List.length_append, List.length_map, List.length_replicate, r.length]
  · obtain ⟨d', h1, h2⟩ := no i _ h
    cases h2
    obtain ⟨v, k1, k2⟩ := r.get h1
    have hi := (List.getElem?_eq_some_iff.mp k1).1
    refine ⟨v, ?_, k2.mono fun a z => ⟨hG i (by rw [← r.length]; exact hi), z⟩⟩
    unfold L2.start
    rw [List.getElem?_append_left (by simpa using hi), List.getElem?_map, k1]
    rfl
  · obtain ⟨d', _, h2⟩ := no i _ h
    cases h2
  · obtain ⟨d', _, h2⟩ := no i _ h
    cases h2
  · obtain ⟨d', _, h3⟩ := no i _ h1
    subst h3
    exact r1.elim
  · obtain ⟨d', _, h2⟩ := no i _ h
    cases h2
  · obtain ⟨d', _, h3⟩ := no i _ h1
    subst h3
    exact h2.elim
  · obtain ⟨d', _, h3⟩ := no i _ h1
    subst h3
    cases k1
/-- THE RULE: a def does what its body's pure run does -/
theorem fun_ok {x qual : Str} {st : Stmt} {f : Addr} {fd : FuncData} {N ps : List Str} {k n : Nat} {M : Sx} {G : Nat → Nat} {fr : Bool} (F : Fun K x qual st f fd) (Sc : FnScope N ps (defScope st)) (hn : ps.length = n) (hG : (List.range n).all (fun i => G i == 0) = true)
    (hb : ∀ (cdv : Value) (A : Around) (outer : List Env) (s : Shared) (H : Hp) (E : XK) (Z0 : Addr → Prop), Room k (A.deeper (envOfC qual (defScope st) s.heap.objs.size f cdv)) →
      SB (cxOf (L2.CX P w) P w K mg base N qual (defScope st) f cdv A outer s H E) ⟨xr, fun c o _ H => E c o H, G, fr, false⟩ H Z0 [] (defBody st) M) : FnOk P w K mg base (L2.CX P w) (k + 1) f fd ps (spF K xr fr (runB N.length M) n) := by
  refine F.okX Sc (fun vs H Q E ⟨_, _, _, _, hl, _⟩ => hl.trans hn.symm) fun cdv A outer s H vs Q E hr ⟨T, Nn, ds, tok, hl, rep, ok⟩ => ?_
  have hG' : ∀ i, i < ds.length → G i = 0 := fun i hi => by
    have := List.all_eq_true.mp hG i (List.mem_range.mpr (by rw [← hl, rep.length]; exact hi))
    simpa using this
  refine ⟨_, hb cdv A outer s H E (fun a => Nn a ∧ H a ≠ none) hr, T, fun _ _ => False, (H, T), _, ⟨Same.refl H, KT.refl, _, fun _ => 0, fun p a z => z.elim, fun p a z => .inr (.inl z.2), start_rel hG' _ (repL_alloc rep) (fun a z => z.2) tok⟩, ?_⟩
  unfold runB at ok
  cases hM : M (ds.map (fun d => some (S.val d)) ++ List.replicate (N.length - ds.length) none) with
  | bad => rw [hM] at ok; exact ok.elim
  | ex d =>
    rw [hM] at ok
    exact fun c o σ' H' sm h => ok c o H' sm h
  | ok fl =>
    rw [hM] at ok
    cases fl with
    | nx e' => exact @fun T2 g σ' H' B => ok .non H' B.1 rfl
    | rt s' =>
      refine @fun T2 g v H' sm rv => ?_
      obtain rfl : T2 = T := g.h
      exact ok v H' sm (RepS.mono rv fun a n => n.imp (fun z => ⟨z.1, z.2.1⟩) id)


end
section
variable {X : Cx} {W : Wi} {H0 : Hp} {Z0 : Addr → Prop} {lk : List Nat} {a b c : Expr} {m n : Ex} {l k : List Nat} {pos apos cpos p2 epos : Pos} {x y : Str}
/-- x.append(y.pop(k)) -/
theorem s_appPop (i j : Nat) {kx : Expr} {q1 q2 q3 : Pos} (hk : SE X W kx n k) (hN : X.N[i]? = some x := by rfl) (hv : Vis X.env.scope x := by first | exact Or.inl rfl | exact Or.inr (Or.inl rfl) | exact Or.inr (Or.inr rfl)) (hd : (x == ("__debug__" : Str)) = false := by decide) (hcd : (x == ("__classdict__" : Str)) = false := by decide)
    (hN2 : X.N[j]? = some y := by rfl) (hv2 : Vis X.env.scope y := by first | exact Or.inl rfl | exact Or.inr (Or.inl rfl) | exact Or.inr (Or.inr rfl)) (hd2 : (y == ("__debug__" : Str)) = false := by decide) (hcd2 : (y == ("__classdict__" : Str)) = false := by decide)
    (ib : attributeBase (.Name y q1) "pop" X.env (eval (.Name y q1) X.env) = eval (.Name y q1) X.env := by rfl)
    (if_ : ((backTo q3 (starEach [kx] X.env)).all (fun x => !x.1) && (backToKw q3 (keywordEach [] X.env)).all (fun x => x.1.isSome) && decide ([kx].length + ([] : List Keyword).length + (if ([] : List Keyword).isEmpty then 0 else 1) < 30)) = true := by rfl)
    (il : (q2.endLine == q3.line) = true := by rfl) (is : starEach [kx] X.env = (false, eval kx X.env) :: starEach [] X.env := by rfl) (ip : (backTo q3 (starEach ([] : List Expr) X.env)).any (·.1) = false := by rfl)
    (hbase : attributeBase (.Name x p2) "append" X.env (eval (.Name x p2) X.env) = eval (.Name x p2) X.env := by rfl)
    (hfew : ((backTo cpos (starEach [.Call (.Attribute (.Name y q1) "pop" q2) [kx] [] q3] X.env)).all (fun x => !x.1) && (backToKw cpos (keywordEach [] X.env)).all (fun x => x.1.isSome) && decide ([Expr.Call (.Attribute (.Name y q1) "pop" q2) [kx] [] q3].length + ([] : List Keyword).length + (if ([] : List Keyword).isEmpty then 0 else 1) < 30)) = true := by rfl)
    (hline : (apos.endLine == cpos.line) = true := by rfl) (hs : starEach [.Call (.Attribute (.Name y q1) "pop" q2) [kx] [] q3] X.env = (false, eval (.Call (.Attribute (.Name y q1) "pop" q2) [kx] [] q3) X.env) :: starEach [] X.env := by rfl) (hplain : (backTo cpos (starEach ([] : List Expr) X.env)).any (·.1) = false := by rfl)
    (hsw : swapsWith (.Call (.Attribute (.Name x p2) "append" apos) [.Call (.Attribute (.Name y q1) "pop" q2) [kx] [] q3] [] cpos) none epos.line X.env = pure false := by rfl) (hgg : W.g j = W.g i := by rfl) :
    SS X W H0 Z0 lk (.Expr (.Call (.Attribute (.Name x p2) "append" apos) [.Call (.Attribute (.Name y q1) "pop" q2) [kx] [] q3] [] cpos) epos) (sAppPop i j n) := by
  refine PS.imp (ps_expr (pe_bm PySem.F.plainAttrs_list PySem.F.slot_list_append PySem.F.type_list_append mt_append (pe_var hN hv hd hcd)
    (pa_cons (pe_bm PySem.F.plainAttrs_list PySem.F.slot_list_pop PySem.F.type_list_pop mt_popAt (pe_var hN2 hv2 hd2 hcd2) (pa_cons hk pa_nil is) ib if_ il is ip) pa_nil hs) hbase hfew hline hs hplain) hsw) fun D σ H ⟨T, Zl, Hb, e, ⟨s0, kp, Z, rt, h1, h2, r0⟩, q⟩ => ?_
  unfold sAppPop at q
  split at q
  case h_2 => exact q.elim
  rename_i nn ds es hn hi hj
  cases hx : ixN es.length nn with
  | none => rw [hx] at q; exact q.elim
  | some g =>
    simp only [hx] at q
    cases hg : es[g]? with
    | none => rw [hg] at q; exact q.elim
    | some d =>
      simp only [hg] at q
      by_cases hc : i ≠ j ∧ ds.length ≤ 65536 ∧ es.length ≤ 65536
      case neg => rw [if_neg hc] at q; exact q.elim
      rw [if_pos hc] at q
      obtain ⟨k1, k2, k3, xs, k4, k5⟩ := r0.own i ds hi
      obtain ⟨j1, j2, j3, ys, j4, j5⟩ := r0.own j es hj
      refine ⟨_, k1, .inl ⟨rfl, xs, .inl (.inl k4)⟩, _, j1, .inl ⟨rfl, ys, .inl (.inl j4)⟩, ?_⟩
      refine tE_go r0 (fun d hd => by rw [hn] at hd; cases hd) (fun hd => by rw [hn] at hd; cases hd) fun s2 kv H2 hs2 sm2 r2 rs2 => ?_
      rw [hn] at hs2
      cases hs2
      obtain rfl : kv = .int nn := rs2
      obtain ⟨_, _, _, ys, j4, j5⟩ := r2.own j es hj
      obtain ⟨v, hv, rv⟩ := j5.get hg
      obtain ⟨sq, b1, b2, b3⟩ := ixN_seq hx
      refine ⟨rt j, ys, nn, g, v, rfl, rfl, j4, by omega, by omega, by rw [j5.length]; exact sq, hv, ?_⟩
      -- the popped list first, then the other one
      have B1 : Body X.K W.g H0 Z0 lk Zl Hb (e.set j (some (.own (es.eraseIdx g)))) σ (upd H2 (rt j) (.lst (ys.eraseIdx g))) := Body.wr s0 kp sm2 h1 h2 r2 hj (j5.eraseIdx g)
      have r3 := r2.write hj (j5.eraseIdx g)
      have hi3 : (e.set j (some (S.own (es.eraseIdx g))))[i]? = some (some (.own ds)) := by rw [List.getElem?_set_ne (fun z => hc.1 z.symm)]; exact hi
      obtain ⟨_, _, g3, zs, g4, g5⟩ := r3.own i ds hi3
      have rv3 : Rep X.K (Z (W.g i)) (upd H2 (rt j) (.lst (ys.eraseIdx g))) d v := by
        obtain ⟨_, _, z3, _, z4, _⟩ := r2.own j es hj
        rw [← hgg]
        refine Rep.imp (fun a ws z w => ⟨z, by rw [upd_ne (fun o => z3 _ (by rw [← o]; exact z))]; exact w⟩) (still_lst j4) d v rv
      refine ⟨rt i, zs, v, rfl, rfl, g4, by rw [g5.length]; exact Nat.lt_of_le_of_lt hc.2.1 (by decide), ?_⟩
      exact q σ _ (Body.wr (s0 := B1.1) B1.2.1 (Same.refl _) h1 h2 r3 hi3 (g5.append (RepL.one rv3)))
end
end Tg

/-! Tg, part 14: methods of texts and lists, ranges as values, zip, enumerate, isinstance. -/
namespace Tg
open PySem PySem.Spec PyProof.Rows L2

section
variable {X : Cx} {W : Wi} {H0 : Hp} {Z0 : Addr → Prop} {a b c : Expr} {m n : Ex} {l k : List Nat} {pos apos : Pos} {p p2 : Pos}
/-! list(range(..)), tuple(range(..)) -/
theorem rg_rep {T : Tkn} {K : PySem.W.Frag} {N : Addr → Prop} {H : Hp} (i j : Int) : RepL K N H (rangeL i j) (rgV i j) := by
  unfold rangeL L2.rgV
  generalize List.range (j - i).toNat = r
  induction r with
  | nil => rfl
  | cons y r ih => exact ⟨_, _, rfl, rfl, ih⟩
theorem rgok {i j : Int} (h : -1000000 ≤ i ∧ i ≤ 1000000 ∧ -1000000 ≤ j ∧ j ≤ 1000000) : RgOk i j := ⟨by omega, by omega, by omega, by omega, by omega⟩
theorem rg1_sim {mk : List D → S} {R0 : Int → Int → Hp → VK → Prop} (hf : ∀ {T : Tkn} N i j H Q, RgOk i j → OkR X.K N H Q (.ok (mk (rangeL i j))) → R0 i j H Q) (σ : L2.St) (H : Hp) (Q : VK) (q : tE X.K W (eRg1 mk m) [] σ H Q) : tRg1 (tE X.K W m l) σ H fun i j H1 => R0 i j H1 Q := by
  obtain ⟨T, B, Z, rt, e, r, q⟩ := q
  unfold eRg1 at q
  refine tE_go r (fun d hd => by rw [hd] at q; exact q) (fun hd => by rw [hd] at q; exact q) fun s x H1 hs sm r1 rs => ?_
  rw [hs, R.bind_ok] at q
  cases hd : s.d with
  | int j =>
    simp only [hd] at q
    obtain rfl := int_of rs hd
    by_cases hb : -1000000 ≤ j ∧ j ≤ 1000000
    · rw [if_pos hb] at q
      exact ⟨j, rfl, hf (fun a => NZ W.g Z e rt [] H a) 0 j H1 Q (rgok ⟨by omega, by omega, hb.1, hb.2⟩) fun x H' sm' rs' => q x H' (sm.trans sm') ((rs'.back sm).mono fun a n => n.elim (fun z => z) fun z => .inr (.inl (sm.free z)))⟩
    · rw [if_neg hb] at q
      exact q.elim
  | non => simp only [hd] at q
  | bl _ => simp only [hd] at q
  | str _ => simp only [hd] at q
  | tup _ => simp only [hd] at q
  | lst _ => simp only [hd] at q
  | scr _ => simp only [hd] at q
  | exc _ _ => simp only [hd] at q
  | jnk => simp only [hd] at q
  | opq _ => simp only [hd] at q
theorem rg2_sim {mk : List D → S} {R0 : Int → Int → Hp → VK → Prop} (hf : ∀ {T : Tkn} N i j H Q, RgOk i j → OkR X.K N H Q (.ok (mk (rangeL i j))) → R0 i j H Q) (σ : L2.St) (H : Hp) (Q : VK) (q : tE X.K W (eRg2 mk m n) [] σ H Q) : tRg2 (tE X.K W m l) (tE X.K W n k) σ H fun i j H1 => R0 i j H1 Q := by
  obtain ⟨T, B, Z, rt, e, r, q⟩ := q
  unfold eRg2 at q
  refine tE_go r (fun d hd => by rw [hd] at q; exact q) (fun hd => by rw [hd] at q; exact q) fun s x H1 hs sm r1 rs => ?_
  rw [hs, R.bind_ok] at q
  refine tE_go r1 (fun d hd c o H' sm' => by rw [hd] at q; exact (fun z9 => q c o H' (sm.trans sm') (z9.mo sm))) (fun hd => by rw [hd] at q; exact q) fun s2 y H2 hs2 sm2 r2 rs2 => ?_
  rw [hs2, R.bind_ok] at q
  cases hd : s.d with
  | int i =>
    cases hd2 : s2.d with
    | int j =>
      simp only [hd, hd2] at q
      obtain rfl := int_of rs hd
      obtain rfl := int_of rs2 hd2
      by_cases hb : -1000000 ≤ i ∧ i ≤ 1000000 ∧ -1000000 ≤ j ∧ j ≤ 1000000
      · rw [if_pos hb] at q
        have sm12 := sm.trans sm2
        exact ⟨i, j, rfl, rfl, hf (fun a => NZ W.g Z e rt [] H a) i j H2 Q (rgok hb) fun x H' sm' rs' => q x H' (sm12.trans sm') ((rs'.back sm12).mono fun a n => n.elim (fun z => z) fun z => .inr (.inl (sm12.free z)))⟩
      · rw [if_neg hb] at q
        exact q.elim
    | non => simp only [hd, hd2] at q
    | bl _ => simp only [hd, hd2] at q
    | str _ => simp only [hd, hd2] at q
    | tup _ => simp only [hd, hd2] at q
    | lst _ => simp only [hd, hd2] at q
    | scr _ => simp only [hd, hd2] at q
    | exc _ _ => simp only [hd, hd2] at q
    | jnk => simp only [hd, hd2] at q
    | opq _ => simp only [hd, hd2] at q
  | non => simp only [hd] at q
  | bl _ => simp only [hd] at q
  | str _ => simp only [hd] at q
  | tup _ => simp only [hd] at q
  | lst _ => simp only [hd] at q
  | scr _ => simp only [hd] at q
  | exc _ _ => simp only [hd] at q
  | jnk => simp only [hd] at q
  | opq _ => simp only [hd] at q
theorem x_listRg1 {p1 pos1 : Pos} (hc : X.calm = true) (hm : X.mg "list" = none) (hm2 : X.mg "range" = none) (ha : SE X W a m l) (hg : Gl X "list" := by rfl) (hg2 : Gl X "range" := by rfl) (na : starEach [.Call (.Name "range" p1) [a] [] pos1] X.env = (false, eval (.Call (.Name "range" p1) [a] [] pos1) X.env) :: starEach [] X.env := by rfl)
    (na2 : starEach [a] X.env = (false, eval a X.env) :: starEach [] X.env := by rfl) : SE X W (.Call (.Name "list" p) [.Call (.Name "range" p1) [a] [] pos1] [] pos) (eRg1 mkO m) [] :=
  PE.imp (pe_listRg hc hg hm (prg_1 hg2 hm2 ha na2) na) fun σ H Q q => rg1_sim (R0 := fun i j H1 Q => RgOk i j ∧ ∀ q, H1 q = none → Q (.ref q) (upd H1 q (.lst (rgV i j)))) (fun N i j H Q ok h => ⟨ok, fun p hp => ok_own h (rg_rep i j) hp⟩) σ H Q q
theorem x_tupRg1 {p1 pos1 : Pos} (hc : X.calm = true) (hm : X.mg "tuple" = none) (hm2 : X.mg "range" = none) (ha : SE X W a m l) (hg : Gl X "tuple" := by rfl) (hg2 : Gl X "range" := by rfl) (na : starEach [.Call (.Name "range" p1) [a] [] pos1] X.env = (false, eval (.Call (.Name "range" p1) [a] [] pos1) X.env) :: starEach [] X.env := by rfl)
    (na2 : starEach [a] X.env = (false, eval a X.env) :: starEach [] X.env := by rfl) : SE X W (.Call (.Name "tuple" p) [.Call (.Name "range" p1) [a] [] pos1] [] pos) (eRg1 mkT m) [] :=
  PE.imp (pe_tupRg hc hg hm (prg_1 hg2 hm2 ha na2) na) fun σ H Q q => rg1_sim (R0 := fun i j H1 Q => RgOk i j ∧ ∀ q, H1 q = none → Q (.ref q) (upd H1 q (.tup (rgV i j)))) (fun N i j H Q ok h => ⟨ok, fun p hp => ok_tup h (rg_rep i j) hp⟩) σ H Q q
theorem x_listRg2 {p1 pos1 : Pos} (hc : X.calm = true) (hm : X.mg "list" = none) (hm2 : X.mg "range" = none) (ha : SE X W a m l) (hb : SE X W b n k) (hg : Gl X "list" := by rfl) (hg2 : Gl X "range" := by rfl) (na : starEach [.Call (.Name "range" p1) [a, b] [] pos1] X.env = (false, eval (.Call (.Name "range" p1) [a, b] [] pos1) X.env) :: starEach [] X.env := by rfl)
    (na2 : starEach [a, b] X.env = (false, eval a X.env) :: starEach [b] X.env := by rfl) (nb : starEach [b] X.env = (false, eval b X.env) :: starEach [] X.env := by rfl) (hp : (backTo pos1 (starEach [b] X.env)).any (·.1) = false := by rfl) : SE X W (.Call (.Name "list" p) [.Call (.Name "range" p1) [a, b] [] pos1] [] pos) (eRg2 mkO m n) [] :=
  PE.imp (pe_listRg hc hg hm (prg_2 hg2 hm2 ha hb na2 nb hp) na) fun σ H Q q => rg2_sim (R0 := fun i j H1 Q => RgOk i j ∧ ∀ q, H1 q = none → Q (.ref q) (upd H1 q (.lst (rgV i j)))) (fun N i j H Q ok h => ⟨ok, fun p hp => ok_own h (rg_rep i j) hp⟩) σ H Q q

/-! zip, enumerate -/
theorem zipD_len : ∀ ds es : List D, (zipD ds es).length = min ds.length es.length
  | [], _ => by simp [zipD]
  | _ :: _, [] => by simp [zipD]
  | d :: ds, e :: es => by
    simp only [zipD, List.length_cons, zipD_len ds es]
    omega
theorem zipD_get : ∀ (ds es : List D) (i : Nat) (z : D), (zipD ds es)[i]? = some z → ∃ d e, ds[i]? = some d ∧ es[i]? = some e ∧ z = .tup [d, e]
  | [], _, _, _, h => by simp [zipD] at h
  | _ :: _, [], _, _, h => by simp [zipD] at h
  | d :: ds, e :: es, 0, z, h => by
    have h' : D.tup [d, e] = z := by simpa [zipD] using h
    exact ⟨d, e, rfl, rfl, h'.symm⟩
  | d :: ds, e :: es, i + 1, z, h => zipD_get ds es i z (by simpa [zipD] using h)
theorem enumD_len : ∀ (ds : List D) (k : Nat), (enumD k ds).length = ds.length
  | [], _ => rfl
  | d :: r, k => by simp only [enumD, List.length_cons, enumD_len r]
theorem enumD_get : ∀ (ds : List D) (k i : Nat) (z : D), (enumD k ds)[i]? = some z → ∃ d, ds[i]? = some d ∧ z = .tup [.int ((k + i : Nat) : Int), d]
  | [], _, _, _, h => by simp [enumD] at h
  | d :: r, k, 0, z, h => by
    have h' : D.tup [.int k, d] = z := by simpa [enumD] using h
    exact ⟨d, rfl, h'.symm⟩
  | d :: r, k, i + 1, z, h => by
    obtain ⟨c, h1, h2⟩ := enumD_get r (k + 1) i z (by simpa [enumD] using h)
    exact ⟨c, by simpa using h1, by rw [h2, Nat.add_assoc, Nat.add_comm 1 i]⟩
section
variable {T : Tkn} {K : PySem.W.Frag} {N : Addr → Prop} {H : Hp} {ds es : List D} {u v : Addr} {xs ys : List V}
theorem it_zipL (hn : N u) (hu : H u = some (.lst xs)) (r : RepL K N H ds xs) (hn2 : N v) (hv : H v = some (.lst ys)) (s : RepL K N H es ys) : ItRep K N H (zipD ds es) (Itz K u v) := by
  have at1 : ∀ {H2 : Hp}, Kp N H H2 → SqL K H2 u xs := fun k => .inl (.inl (k.1 _ _ hn hu))
  have at2 : ∀ {H2 : Hp}, Kp N H H2 → SqL K H2 v ys := fun k => .inl (.inl (k.1 _ _ hn2 hv))
  refine ⟨fun i H2 k hi => ?_, fun i H2 x H3 d k hd ⟨T, y1, y2, ex, hT, e3, f1, f2⟩ => ?_, fun i H2 k hi _ => ⟨xs, ys, at1 k, at2 k, ?_⟩⟩
  · rw [zipD_len] at hi
    have h1 : i < xs.length := by rw [r.length]; omega
    have h2 : i < ys.length := by rw [s.length]; omega
    exact ⟨xs, ys, _, _, at1 k, at2 k, List.getElem?_eq_getElem h1, List.getElem?_eq_getElem h2⟩
  · subst ex e3
    obtain ⟨d1, d2, h1, h2, rfl⟩ := zipD_get ds es i d hd
    obtain ⟨w1, g1, k1⟩ := r.get h1
    obtain ⟨w2, g2, k2⟩ := s.get h2
    have e1 := (f1 xs (at1 k)).symm.trans g1
    have e2 := (f2 ys (at2 k)).symm.trans g2
    cases e1
    cases e2
    exact ⟨same_new hT, T, _, rfl, upd_same, _, _, rfl, (k1.kp k).same (same_new hT), _, _, rfl, (k2.kp k).same (same_new hT), rfl⟩
  · rw [zipD_len] at hi
    rw [r.length, s.length]
    omega
theorem it_zipT (hu : H u = some (.tup xs)) (r : RepL K N H ds xs) (hv : H v = some (.tup ys)) (s : RepL K N H es ys) : ItRep K N H (zipD ds es) (RZ.ItzT K u v) := by
  have at1 : ∀ {H2 : Hp}, Kp N H H2 → SqT K H2 u xs := fun k => sqt (k.2.rd hu)
  have at2 : ∀ {H2 : Hp}, Kp N H H2 → SqT K H2 v ys := fun k => sqt (k.2.rd hv)
  refine ⟨fun i H2 k hi => ?_, fun i H2 x H3 d k hd ⟨T, y1, y2, ex, hT, e3, f1, f2⟩ => ?_, fun i H2 k hi _ => ⟨xs, ys, at1 k, at2 k, ?_⟩⟩
  · rw [zipD_len] at hi
    have h1 : i < xs.length := by rw [r.length]; omega
    have h2 : i < ys.length := by rw [s.length]; omega
    exact ⟨xs, ys, _, _, at1 k, at2 k, List.getElem?_eq_getElem h1, List.getElem?_eq_getElem h2⟩
  · subst ex e3
    obtain ⟨d1, d2, h1, h2, rfl⟩ := zipD_get ds es i d hd
    obtain ⟨w1, g1, k1⟩ := r.get h1
    obtain ⟨w2, g2, k2⟩ := s.get h2
    have e1 := (f1 xs (at1 k)).symm.trans g1
    have e2 := (f2 ys (at2 k)).symm.trans g2
    cases e1
    cases e2
    exact ⟨same_new hT, T, _, rfl, upd_same, _, _, rfl, (k1.kp k).same (same_new hT), _, _, rfl, (k2.kp k).same (same_new hT), rfl⟩
  · rw [zipD_len] at hi
    rw [r.length, s.length]
    omega
theorem it_enum (hn : N u) (hu : H u = some (.lst xs)) (r : RepL K N H ds xs) : ItRep K N H (enumD 0 ds) (Ite K u) := by
  have at1 : ∀ {H2 : Hp}, Kp N H H2 → SqL K H2 u xs := fun k => .inl (.inl (k.1 _ _ hn hu))
  refine ⟨fun i H2 k hi => ?_, fun i H2 x H3 d k hd ⟨T, y1, ex, hT, e3, f1⟩ => ?_, fun i H2 k hi _ => ⟨xs, at1 k, ?_⟩⟩
  · rw [enumD_len] at hi
    have h1 : i < xs.length := by rw [r.length]; omega
    exact ⟨xs, _, at1 k, List.getElem?_eq_getElem h1⟩
  · subst ex e3
    obtain ⟨d1, h1, rfl⟩ := enumD_get ds 0 i d hd
    obtain ⟨w1, g1, k1⟩ := r.get h1
    have e1 := (f1 xs (at1 k)).symm.trans g1
    cases e1
    rw [Nat.zero_add]
    exact ⟨same_new hT, T, _, rfl, upd_same, _, _, rfl, rfl, _, _, rfl, (k1.kp k).same (same_new hT), rfl⟩
  · rw [enumD_len] at hi
    rw [r.length]
    exact hi
end
theorem i_zip {elts : List Expr} {kk : Nat} {tpos : Pos} (hm : X.mg "zip" = none) (ha : SE X W a m l) (hb : SE X W b n k) (hg : Gl X "zip" := by rfl) (he : starEach [a, b] X.env = (false, eval a X.env) :: starEach [b] X.env := by rfl) (he2 : starEach [b] X.env = (false, eval b X.env) :: starEach [] X.env := by rfl)
    (hpl : (backTo pos (starEach [b] X.env)).any (·.1) = false := by rfl) : SI X W (.Tuple elts kk tpos) (.Call (.Name "zip" p) [a, b] [] pos) (aZip m n) (l ++ k) := by
  refine PI.imp (RZ.pi_zipA hg hm (pa_cons ha (pa_cons hb pa_nil he2) he) he hpl) fun σ H R0 ⟨T, B, Z, rt, e, r, q⟩ => ?_
  unfold aZip at q
  refine tE_go r (fun d hd => by rw [hd] at q; exact q) (fun hd => by rw [hd] at q; exact q) fun s x H1 hs sm r1 rs => ?_
  rw [hs, R.bind_ok] at q
  refine tE_go r1 (fun d hd c o H' sm' => by rw [hd] at q; exact (fun z9 => q c o H' (sm.trans sm') (z9.mo sm))) (fun hd => by rw [hd] at q; exact q) fun s2 y H2 hs2 sm2 r2 rs2 => ?_
  rw [hs2, R.bind_ok] at q
  have rd := ((rs.mono fun a z => NZ.mono (l' := l ++ k) (fun i hi => List.mem_append_left _ hi) z).d fun a z => .inr (.inl z)).same sm2
  have rd2 := (rs2.mono fun a z => (NZ.mono (l' := l ++ k) (fun i hi => List.mem_append_right _ hi) z).back sm).d fun a z => .inr (.inl (sm.free z))
  have al : ∀ {ds : List D} {xs : List V}, RepL X.K (NZ W.g Z e rt (l ++ k) H) H2 ds xs → RepL X.K (fun a => NZ W.g Z e rt (l ++ k) H a ∧ H2 a ≠ none) H2 ds xs := fun h => repL_alloc h
  cases hd : s.d <;> cases hd2 : s2.d <;> simp only [hd, hd2] at q
  case lst.lst ds es =>
    rw [hd] at rd
    rw [hd2] at rd2
    obtain ⟨u, xs, rfl, ⟨n1, h1⟩, g1⟩ := rd
    obtain ⟨v, ys, rfl, ⟨n2, h2⟩, g2⟩ := rd2
    exact ⟨u, v, xs, ys, rfl, .inl ⟨.inl (.inl h1), .inl (.inl h2), q _ H2 (sm.trans sm2) (it_zipL ⟨n1, by rw [h1]; exact nofun⟩ h1 (al g1) ⟨n2, by rw [h2]; exact nofun⟩ h2 (al g2))⟩⟩
  case tup.tup ds es =>
    rw [hd] at rd
    rw [hd2] at rd2
    obtain ⟨u, xs, rfl, h1, g1⟩ := rd
    obtain ⟨v, ys, rfl, h2, g2⟩ := rd2
    exact ⟨u, v, xs, ys, rfl, .inr ⟨sqt h1, sqt h2, q _ H2 (sm.trans sm2) (it_zipT h1 (al g1) h2 (al g2))⟩⟩
theorem i_enum {elts : List Expr} {kk : Nat} {tpos : Pos} (hm : X.mg "enumerate" = none) (ha : SE X W a m l) (hg : Gl X "enumerate" := by rfl) (he : starEach [a] X.env = (false, eval a X.env) :: starEach [] X.env := by rfl) (hs : starEach [a] X.env = [(false, eval a X.env)] := by rfl) :
    SI X W (.Tuple elts kk tpos) (.Call (.Name "enumerate" p) [a] [] pos) (aEnum m) l := by
  refine PI.imp (pi_enum hg hm (pa_cons ha pa_nil he) he) fun σ H R0 ⟨T, B, Z, rt, e, r, q⟩ => ?_
  unfold aEnum at q
  refine tE_go r (fun d hd => by rw [hd] at q; exact q) (fun hd => by rw [hd] at q; exact q) fun s x H1 hs sm r1 rs => ?_
  rw [hs, R.bind_ok] at q
  have rd := rs.d (N := NZ W.g Z e rt l H) fun a z => .inr (.inl z)
  cases hd : s.d <;> simp only [hd] at q
  case lst ds =>
    rw [hd] at rd
    obtain ⟨u, xs, rfl, ⟨n1, h1⟩, g1⟩ := rd
    exact ⟨u, xs, rfl, .inl (.inl h1), q _ H1 sm (it_enum ⟨n1, by rw [h1]; exact nofun⟩ h1 (repL_alloc g1))⟩

/-! isinstance(x, T) -/
def isT (d : D) : Option String := match d with
  | .non => some "NoneType"
  | .bl _ => some "bool"
  | .int _ => some "int"
  | .str _ => some "str"
  | .tup _ => some "tuple"
  | .lst _ => some "list"
  | _ => none
theorem tyx {T : Tkn} {K : PySem.W.Frag} {N : Addr → Prop} {H : Hp} {d : D} {x : V} (r : Rep K N H d x) {T : String} (h : isT d = some T) : TyX K H x (.type T) := by
  cases d with
  | non => cases h; obtain rfl : x = .non := r; exact .base .non
  | bl b => cases h; obtain rfl : x = .bl b := r; exact .base (.bl b)
  | int i => cases h; obtain rfl : x = .int i := r; exact .base (.int i)
  | str s => cases h; obtain rfl : x = .str ⟨s.toArray⟩ := r; exact .base (.str _)
  | tup ds =>
    cases h
    obtain ⟨a, xs, rfl, hs, _⟩ := r
    exact .base (.tup hs)
  | lst ds => cases h; obtain ⟨a, xs, rfl, ⟨_, hs⟩, _⟩ := r; exact .base (.lst hs)
  | scr ns => cases h
  | exc c fs => cases h
  | jnk => cases h
  | opq _ => cases h
def eIs (c : String) (m : Ex) : Ex := fun e => (m e).bind fun s => match isT s.d with
  | some T => (match kitB T c with
    | some b => .ok (.val (.bl b))
    | none => .bad)
  | none => .bad
theorem x_is {cn : Str} (cs : String) {pt : Pos} (hm : X.mg "isinstance" = none) (hm2 : X.mg cn = none) (hv2 : bootBuiltins cn = some (.type cs)) (ha : SE X W a m l) (hg : Gl X "isinstance" := by rfl) (hg2 : Gl X cn := by rfl) (hn : cn ≠ "__name__" := by decide) (hdb : (cn == ("__debug__" : Str)) = false := by decide)
    (he : starEach [a, .Name cn pt] X.env = (false, eval a X.env) :: starEach [.Name cn pt] X.env := by rfl) (he2 : starEach [.Name cn pt] X.env = (false, eval (.Name cn pt) X.env) :: starEach [] X.env := by rfl) (hpl : (backTo pos (starEach [.Name cn pt] X.env)).any (·.1) = false := by rfl) :
    SE X W (.Call (.Name "isinstance" p) [a, .Name cn pt] [] pos) (eIs cs m) [] := by
  refine PE.imp (pe_callB call_isi hg hm (by decide +kernel) (pa_cons ha (pa_cons (pe_bltn (v := .ty cs) hg2 hm2 hv2 rfl hn hdb) pa_nil he2) he) (by decide) (by decide) he hpl) fun σ H Q ⟨T, B, Z, rt, e, r, q⟩ => ?_
  unfold eIs at q
  refine tE_go r (fun d hd => by rw [hd] at q; exact q) (fun hd => by rw [hd] at q; exact q) fun s x H1 hs sm r1 rs => ?_
  rw [hs, R.bind_ok] at q
  have rd := rs.d (N := NZ W.g Z e rt l H) fun a z => .inr (.inl z)
  cases hT : isT s.d with
  | none => simp only [hT] at q
  | some T =>
    simp only [hT] at q
    cases hb : kitB T cs with
    | none => simp only [hb] at q
    | some b =>
      simp only [hb] at q
      exact ⟨x, .ty cs, .type T, .type cs, b, rfl, .ty cs, tyx rd hT, kit_ty hb, q _ H1 sm rfl⟩

end
end Tg

/-! Tg, part 15: defs by name; the law's end. -/
namespace Tg
open PySem PySem.Spec PyProof.Rows L2

/-- what the top has written of a def -/
structure Has (K : PySem.W.Frag) (mg : Str → Option Value) (x : Str) (st : Stmt) (ps : List Str) (f : Addr) (fd : FuncData) : Prop where
  m : mg x = some (.ref f)
  fn : Fun K x x st f fd
  b : Binds K fd ps []
/-- a def that can be called: it does what F does -/
def CalG (fr : Bool) (P : Program) (w : World) (K : PySem.W.Frag) (mg : Str → Option Value) (base : Heap) (xr : Hp → D → Value → Option Addr → Hp → Prop) (k : Nat) (x : Str) (F : List D → R S) (n : Nat) : Prop :=
  ∃ f fd ps, FnOk P w K mg base (L2.CX P w) k f fd ps (spF K xr fr F n) ∧ mg x = some (.ref f) ∧ PySem.W.keepIn K (.ref f) = true ∧ Binds K fd ps []

abbrev Cal := CalG false
/-- whose result shares nothing with what was handed in -/
abbrev CalF := CalG true
section
variable {X : Cx} {W : Wi} {x : Str} {e : Expr} {es : List Expr} {m : Ax} {l : List Nat} {p pos : Pos} {k lev n : Nat} {F : List D → R S} {xr : Hp → D → Value → Option Addr → Hp → Prop}
theorem x_cal (C : Cal X.prog X.w X.K X.mg X.base xr lev x F n) (hr : Room k X.A) (hk : lev ≤ k) (tk : Takes X W.w) (hxr : ∀ H0 d c o H, xr H0 d c o H → W.xr H0 d c o H) (ha : SA X W (e :: es) m l)
    (hl : ∀ e ds, m e = .ok ds → ds.length = n) (hg : Gl X x := by rfl) (hdb : (x == ("__debug__" : Str)) = false := by decide) (he : starEach (e :: es) X.env = (false, eval e X.env) :: starEach es X.env := by rfl) (hpl : (backTo pos (starEach es X.env)).any (·.1) = false := by rfl) :
    SE X W (.Call (.Name x p) (e :: es) [] pos) (eCall F m) l := by
  obtain ⟨f, fd, ps, G, hm, kp, hb⟩ := C
  exact x_callG (.inr fun j hj => hj) G (hr.mono hk) hm kp hb tk hxr ha hl hg hdb he hpl
theorem x_calF (C : CalF X.prog X.w X.K X.mg X.base xr lev x F n) (hr : Room k X.A) (hk : lev ≤ k) (tk : Takes X W.w) (hxr : ∀ H0 d c o H, xr H0 d c o H → W.xr H0 d c o H) (ha : SA X W (e :: es) m l)
    (hl : ∀ e ds, m e = .ok ds → ds.length = n) (hg : Gl X x := by rfl) (hdb : (x == ("__debug__" : Str)) = false := by decide) (he : starEach (e :: es) X.env = (false, eval e X.env) :: starEach es X.env := by rfl) (hpl : (backTo pos (starEach es X.env)).any (·.1) = false := by rfl) :
    SE X W (.Call (.Name x p) (e :: es) [] pos) (eCall F m) [] := by
  obtain ⟨f, fd, ps, G, hm, kp, hb⟩ := C
  exact x_callG (.inl rfl) G (hr.mono hk) hm kp hb tk hxr ha hl hg hdb he hpl
end
section
variable {P : Program} {w : World} {K : PySem.W.Frag} {mg : Str → Option Value} {base : Heap} {xr : Hp → D → Value → Option Addr → Hp → Prop}
theorem def_calG {x : Str} {st : Stmt} {f : Addr} {fd : FuncData} {N ps : List Str} {k n : Nat} {M : Sx} (G : Nat → Nat) (fr : Bool) (h : Has K mg x st ps f fd) (Sc : FnScope N ps (defScope st)) (hn : ps.length = n) (hG : (List.range n).all (fun i => G i == 0) = true)
    (hb : ∀ (cdv : Value) (A : Around) (outer : List Env) (s : Shared) (H : Hp) (E : XK) (Z0 : Addr → Prop), Room k (A.deeper (envOfC x (defScope st) s.heap.objs.size f cdv)) →
      SB (cxOf (L2.CX P w) P w K mg base N x (defScope st) f cdv A outer s H E) ⟨xr, fun c o _ H => E c o H, G, fr, false⟩ H Z0 [] (defBody st) M) : CalG fr P w K mg base xr (k + 1) x (runB N.length M) n :=
  ⟨f, fd, ps, fun_ok h.fn Sc hn hG hb, h.m, h.fn.kp, h.b⟩
theorem def_cal {x : Str} {st : Stmt} {f : Addr} {fd : FuncData} {N ps : List Str} {k n : Nat} {M : Sx} (h : Has K mg x st ps f fd) (Sc : FnScope N ps (defScope st)) (hn : ps.length = n)
    (hb : ∀ (cdv : Value) (A : Around) (outer : List Env) (s : Shared) (H : Hp) (E : XK) (Z0 : Addr → Prop), Room k (A.deeper (envOfC x (defScope st) s.heap.objs.size f cdv)) →
      SB (cxOf (L2.CX P w) P w K mg base N x (defScope st) f cdv A outer s H E) ⟨xr, fun c o _ H => E c o H, fun _ => 0, false, false⟩ H Z0 [] (defBody st) M) : Cal P w K mg base xr (k + 1) x (runB N.length M) n :=
  def_calG (fun _ => 0) false h Sc hn (List.all_eq_true.mpr fun i _ => rfl) hb
/-- nothing is promised -/
theorem bad_cal {fr : Bool} {x : Str} {st : Stmt} {f : Addr} {fd : FuncData} {ps : List Str} {n : Nat} (h : Has K mg x st ps f fd) (hn : ps.length = n) : CalG fr P w K mg base xr 0 x (fun _ => .bad) n :=
  ⟨f, fd, ps, ⟨fun vs H Q E ⟨_, _, _, _, hl, _⟩ => hl.trans hn.symm, fun A outer s H args us vs Q E hr he hb hv ⟨_, _, _, _, _, _, q⟩ => q.elim⟩, h.m, h.fn.kp, h.b⟩
theorem CalG.congr {fr : Bool} {x : Str} {k n : Nat} {F G : List D → R S} (h : ∀ ds, F ds = G ds) (C : CalG fr P w K mg base xr k x F n) : CalG fr P w K mg base xr k x G n := by
  have e : F = G := funext h
  rw [← e]
  exact C
theorem CalG.mono {fr : Bool} {x : Str} {j k n : Nat} {F : List D → R S} (C : CalG fr P w K mg base xr j x F n) (h : j ≤ k) : CalG fr P w K mg base xr k x F n := by
  obtain ⟨f, fd, ps, G, hm, kp, hb⟩ := C
  exact ⟨f, fd, ps, G.mono h, hm, kp, hb⟩
end
theorem has_of {K : PySem.W.Frag} {h : Heap} {mg : Str → Option Value} (X : K.In h) (G : h.Ns mainGlobals mg) {x : Str} {st : Stmt} {ps : List Str} {f : Addr} {od an : Option Addr} {sl : Array (Option Value)} {oc kV dc pm cd ct : Value}
    (a : PySem.W.nsIn K mainGlobals x = some (some (.ref f))) (l : K.lookup f = some ⟨oc, od, .func (PySem.W.fnOf x x (defArgs st) (defBody st) (defScope st) .none kV dc pm an cd ct), sl⟩) (c : PySem.W.codeIn K cd x = true) (k : PySem.W.keepIn K (.ref f) = true)
    (b : Fun K x x st f (PySem.W.fnOf x x (defArgs st) (defBody st) (defScope st) .none kV dc pm an cd ct) → Binds K (PySem.W.fnOf x x (defArgs st) (defBody st) (defScope st) .none kV dc pm an cd ct) ps []) :
    Has K mg x st ps f (PySem.W.fnOf x x (defArgs st) (defBody st) (defScope st) .none kV dc pm an cd ct) :=
  ⟨PySem.W.mg_of X G a, fun_mk l c k, b (fun_mk l c k)⟩

theorem Hu {k : Nat} {A : Around} (r : Room k A) : A.units + 65 < cLine := by have := r.un; omega
theorem cx_end {P : Program} {w : World} {H : Hp} {s : Shared} {e : Value} {s' : Shared} (h : L2.CX P w [] H s (fun _ _ _ => False) e s') : False := by
  obtain ⟨_, _, _, _, _, _, _, _, _, _, _, _, z⟩ := h
  exact z
/-- which exceptions may leave a def: own ones; what their fields bear is younger than H0 -/
def XR (K : PySem.W.Frag) (H0 : Hp) (d : D) (c : Value) (o : Option Addr) (H : Hp) : Prop := match d with
  | .exc nm fs => (∃ C, c = .ref C ∧ PySem.W.nsIn K mainGlobals (Str.ofString nm) = some (some (.ref C))) ∧ ((fs = [] ∧ (o = none ∨ ∃ dd gs, o = some dd ∧ H dd = some (.xd gs))) ∨ (fs ≠ [] ∧ ∃ dd xs, o = some dd ∧ H dd = some (.xd ((fnames nm).zip xs)) ∧ @RepL Tkn.no K (fun a => H0 a = none) H fs xs))
  | _ => False
theorem le_no (T : Tkn) : TLe Tkn.no T := fun k a z => nomatch (show (none : Option Addr) = some a from z)
theorem tok_no (H : Hp) : TokOk Tkn.no H := ⟨(fun _ _ h => nomatch h), (fun _ _ _ h => nomatch h)⟩
/-- what the law promises -/
def spLaw (K : PySem.W.Frag) : Sp := fun vs H Q _ => ∃ (a : Addr) (ns : List Int), vs = [.ref a] ∧ Scr K H a (ns.map V.int) ∧ ns.length ≤ 63 ∧ ∀ H', Q (.bl true) H'
theorem law_fn {P : Program} {w : World} {K : PySem.W.Frag} {mg : Str → Option Value} {base : Heap} {xr : Hp → D → Value → Option Addr → Hp → Prop} {x : Str} {st : Stmt} {f : Addr} {fd : FuncData} {N ps : List Str} {k : Nat} {M : Sx} {G : Nat → Nat} (h : Has K mg x st ps f fd) (Sc : FnScope N ps (defScope st)) (hn : ps.length = 1) (hG : (G 0 == 0) = true)
    (hb : ∀ (cdv : Value) (A : Around) (outer : List Env) (s : Shared) (H : Hp) (E : XK) (Z0 : Addr → Prop), Room k (A.deeper (envOfC x (defScope st) s.heap.objs.size f cdv)) →
      SB (cxOf (L2.CX P w) P w K mg base N x (defScope st) f cdv A outer s H E) ⟨xr, fun c o _ H => E c o H, G, false, false⟩ H Z0 [] (defBody st) M)
    (T : ∀ ns : List Int, ns.length ≤ 63 → runB N.length M [.scr ns] = .ok (.val (.bl true))) : FnOk P w K mg base (L2.CX P w) (k + 1) f fd ps (spLaw K) := by
  refine (fun_ok h.fn Sc hn (by simpa using hG) hb).imp fun vs H Q E ⟨a, ns, e, hS, hl, q⟩ => ?_
  subst e
  refine ⟨Tkn.no, fun _ => False, [.scr ns], tok_no H, rfl, ⟨_, _, rfl, ⟨a, rfl, hS⟩, rfl⟩, ?_⟩
  rw [T ns hl]
  intro v H' sm rs
  obtain rfl : v = .bl true := rs
  exact q H'
theorem law_in {K : PySem.W.Frag} {H : Hp} {a : Addr} {ns : List Int} (hl : ns.length ≤ 63) (hO : L2.Only H) (hS : SqL K H a (ns.map V.int)) : spLaw K [.ref a] H (fun v _ => v = .bl true) fun _ _ _ => False := by
  refine ⟨a, ns, rfl, ?_, hl, fun _ => rfl⟩
  rcases hS with (h | h) | h
  · rcases hO a with o | ⟨o, xs, e⟩
    · rw [o] at h; cases h
    · rw [e] at h; cases h
  · exact .inl h
  · exact .inr h
end Tg

/-! Tg, part 15b: join, find, index; reads of constant dicts. -/
namespace Tg
open PySem PySem.Spec PyProof.Rows L2

def D.isS : D → Bool
  | .str _ => true
  | _ => false
def D.isL : D → Bool
  | .lst _ => true
  | _ => false
/-- a method of one argument: what it is asked of is looked at first -/
def eM (g : D → Bool) (f : D → D → R S) (a b : Ex) : Ex := fun e => (a e).bind fun x => if g x.d = true then (b e).bind fun y => f x.d y.d else .bad

section
variable {X : Cx} {W : Wi} {a b c : Expr} {m n : Ex} {l k : List Nat} {pos apos cpos : Pos}
theorem simM {g : D → Bool} {TT : V → Hp → Prop} {r : R2} {f : D → D → R S} (o : Op2 X.K r f) (hx : NoEx2 f) (hT : ∀ {T : Tkn} N H d x, g d = true → Rep X.K N H d x → TT x H) (σ : L2.St) (H : Hp) (Q : VK) (q : tE X.K W (eM g f m n) (l ++ k) σ H Q) :
    tE X.K W m l σ H fun x H1 => TT x H1 ∧ tE X.K W n k σ H1 fun y H2 => r x y H2 Q := by
  obtain ⟨T, B, Z, rt, e, r0, q⟩ := q
  unfold eM at q
  refine tE_go r0 (fun d hd => by rw [hd] at q; exact q) (fun hd => by rw [hd] at q; exact q) fun s x H1 hs sm1 r1 rs => ?_
  rw [hs, R.bind_ok] at q
  by_cases hg : g s.d = true
  case neg => rw [if_neg hg] at q; exact q.elim
  rw [if_pos hg] at q
  have e0 : Rep X.K (NZ W.g Z e rt (l ++ k) H) H1 s.d x := (rs.mono fun a z => NZ.mono (fun i hi => List.mem_append_left _ hi) z).d fun a z => .inr (.inl z)
  refine ⟨hT _ _ _ _ hg e0, ?_⟩
  refine tE_go r1 (fun d hd c o H' sm => by
    rw [hd] at q
    exact (fun z9 => q c o H' (sm1.trans sm) (z9.mo sm1))) (fun hd => by rw [hd] at q; exact q) fun s2 y H2 hs2 sm2 r2 rs2 => ?_
  rw [hs2, R.bind_ok] at q
  have e1 : Rep X.K (NZ W.g Z e rt (l ++ k) H) H2 s.d x := e0.same sm2
  have e2 : Rep X.K (NZ W.g Z e rt (l ++ k) H) H2 s2.d y := (rs2.mono fun a z => (NZ.mono (fun i hi => List.mem_append_right _ hi) z).back sm1).d fun a z => .inr (.inl (sm1.free z))
  refine o _ H2 _ _ x y Q e1 e2 (okR_of (N' := NZ W.g Z e rt (l ++ k) H) (fun h => by rw [h] at q; exact q) (hx _ _) (fun a z => ?_) fun s3 h3 x3 H3 sm3 rs3 => ?_)
  · rcases z with z | z
    · exact z
    · exact .inr (.inl ((sm1.trans sm2).free z))
  · rw [h3] at q
    exact q x3 H3 ((sm1.trans sm2).trans sm3) (rs3.back (sm1.trans sm2))
theorem fl_eM {g : D → Bool} {f : D → D → R S} (h : Fl2 f) : ∀ e s, eM g f m n e = .ok s → ∃ d, s = .val d ∧ d.flat = true := fun e s q => by
  unfold eM at q
  cases hm : m e with
  | bad => rw [hm] at q; cases q
  | ex d => rw [hm] at q; cases q
  | ok x =>
    rw [hm, R.bind_ok] at q
    split at q
    · cases hn : n e with
      | bad => rw [hn] at q; cases q
      | ex d => rw [hn] at q; cases q
      | ok y =>
        rw [hn, R.bind_ok] at q
        exact h _ _ _ q
    · cases q
theorem str_is : ∀ {T : Tkn} (N : Addr → Prop) (H : Hp) (d : D) (x : V), D.isS d = true → Rep X.K N H d x → ∃ a, x = .str a := fun N H d x h r => by
  cases d <;> first | cases h | skip
  exact ⟨_, r⟩
theorem lst_is : ∀ {T : Tkn} (N : Addr → Prop) (H : Hp) (d : D) (x : V), D.isL d = true → Rep X.K N H d x → tyV X.K "list" x H := fun N H d x h r => by
  cases d <;> first | cases h | skip
  obtain ⟨a, xs, rfl, ⟨_, hs⟩, _⟩ := r
  exact .inl ⟨rfl, xs, .inl (.inl hs)⟩

/-! sep.join(xs) -/
theorem tl_mk (s : List Nat) : TL.tl (⟨s.toArray⟩ : Str) = s := rfl
theorem joinL_eq (sep : List Nat) : ∀ xs : List (List Nat), TL.joinL sep xs = joinL sep xs
  | [] => rfl
  | [x] => rfl
  | x :: y :: r => by
    show x ++ (sep ++ TL.joinL sep (y :: r)) = x ++ sep ++ joinL sep (y :: r)
    rw [joinL_eq sep (y :: r), List.append_assoc]
theorem txt_join (sep : List Nat) (xs : List (List Nat)) : Txt.join ⟨sep.toArray⟩ (xs.map fun s => (⟨s.toArray⟩ : Str)) = ⟨(joinL sep xs).toArray⟩ := by
  have h : TL.tl (Txt.join ⟨sep.toArray⟩ (xs.map fun s => (⟨s.toArray⟩ : Str))) = joinL sep xs := by
    rw [TL.join_eq, TL.tl_join, tl_mk, List.map_map, ← joinL_eq]
    congr 1
    induction xs with
    | nil => rfl
    | cons x r ih => rw [List.map_cons, ih]; rfl
  generalize Txt.join ⟨sep.toArray⟩ (xs.map fun s => (⟨s.toArray⟩ : Str)) = z at h
  cases z with
  | mk cps => cases cps; cases h; rfl
theorem strs_rep {T : Tkn} {K : PySem.W.Frag} {N : Addr → Prop} {H : Hp} : ∀ {ss : List (List Nat)} {xs : List V}, RepL K N H (ss.map D.str) xs → xs = (ss.map fun s => (⟨s.toArray⟩ : Str)).map V.str
  | [], xs, h => h
  | s :: r, xs, h => by
    obtain ⟨y, ys, rfl, h1, h2⟩ := h
    rw [strs_rep h2]
    cases h1
    rfl
theorem lens_le : ∀ xs : List (List Nat), (∀ x ∈ xs, x.length ≤ 1000) → ((xs.map fun s => (⟨s.toArray⟩ : Str)).map (·.length)).sum ≤ xs.length * 1000
  | [], _ => Nat.le_refl _
  | x :: r, h => by
    have ih := lens_le r fun y hy => h y (List.mem_cons_of_mem _ hy)
    have hx : (⟨x.toArray⟩ : Str).length ≤ 1000 := h x List.mem_cons_self
    simp only [List.map_cons, List.sum_cons, List.length_cons]
    omega
theorem o_join {K : PySem.W.Frag} : Op2 K (fun x y H Q => ∃ a p, ∃ ys : List Str, x = .str a ∧ [y] = [.ref p] ∧ (SqL K H p (ys.map V.str) ∨ SqT K H p (ys.map V.str)) ∧
      (ys.map (·.length)).sum + ys.length * a.length ≤ 16777216 ∧ Q (.str (Txt.join a ys)) H) oJoin := by
  intro T N H d c x y Q rd rc h
  cases d <;> first | exact False.elim h | skip
  rename_i sep
  cases c <;> first | exact False.elim h | skip
  rename_i ds
  obtain rfl : x = .str ⟨sep.toArray⟩ := rd
  obtain ⟨p, xs, rfl, ⟨_, hs⟩, hr⟩ := rc
  unfold oJoin at h
  cases hd : D.strs ds with
  | none => simp only [hd] at h; exact h.elim
  | some ss =>
    simp only [hd] at h
    by_cases hc : ss.length ≤ 1000 ∧ (∀ x ∈ ss, x.length ≤ 1000) ∧ sep.length ≤ 1000
    case neg => rw [if_neg hc] at h; exact h.elim
    rw [if_pos hc] at h
    have e := strs_some hd
    subst e
    have ex := strs_rep hr
    subst ex
    refine ⟨_, p, _, rfl, rfl, .inl (.inl (.inl hs)), ?_, h _ H (Same.refl H) ?_⟩
    · have h1 := lens_le ss hc.2.1
      have h2 : (⟨sep.toArray⟩ : Str).length ≤ 1000 := hc.2.2
      have h3 : (ss.map fun s => (⟨s.toArray⟩ : Str)).length * (⟨sep.toArray⟩ : Str).length ≤ 1000 * 1000 := Nat.mul_le_mul (by rw [List.length_map]; exact hc.1) h2
      have h4 : ss.length * 1000 ≤ 1000 * 1000 := Nat.mul_le_mul_right _ hc.1
      omega
    · show V.str _ = _
      rw [txt_join]
theorem nx_join : NoEx2 oJoin := by
  intro d c e h
  unfold oJoin at h
  split at h <;> (try split at h) <;> (try split at h) <;> cases h
theorem fl_join : Fl2 oJoin := by
  intro d c s h
  unfold oJoin at h
  split at h <;> (try split at h) <;> (try split at h) <;> cases h <;> exact ⟨_, rfl, rfl⟩
theorem x_join (ha : SE X W a m l) (hb : SE X W b n k) (hs : starEach [b] X.env = [(false, eval b X.env)] := by rfl) (hbase : attributeBase a "join" X.env (eval a X.env) = eval a X.env := by rfl) (hline : (apos.endLine == pos.line) = true := by rfl) :
    SE X W (.Call (.Attribute a "join" apos) [b] [] pos) (eM D.isS oJoin m n) [] :=
  x_flat (PE.imp (pe_join ha hb hs hbase hline) fun σ H Q q => simM o_join nx_join str_is σ H Q q) (fl_eM fl_join)

/-! s.find(c), c one sign -/
theorem findN_spec (c : Nat) : ∀ (s : List Nat) (k : Nat), (findN c k s = -1 ∧ ∀ i : Nat, s[i]? ≠ some c) ∨ ∃ i : Nat, findN c k s = ((k + i : Nat) : Int) ∧ s[i]? = some c ∧ ∀ j, j < i → s[j]? ≠ some c
  | [], k => .inl ⟨rfl, fun i => by simp⟩
  | x :: r, k => by
    by_cases h : x = c
    · refine .inr ⟨0, by rw [findN, if_pos h]; rfl, by rw [h]; rfl, fun j hj => by omega⟩
    · rcases findN_spec c r (k + 1) with ⟨h1, h2⟩ | ⟨i, h1, h2, h3⟩
      · refine .inl ⟨by rw [findN, if_neg h, h1], fun i => ?_⟩
        cases i with
        | zero => simpa using h
        | succ i => simpa using h2 i
      · refine .inr ⟨i + 1, by rw [findN, if_neg h, h1]; congr 1; omega, by simpa using h2, fun j hj => ?_⟩
        cases j with
        | zero => simpa using h
        | succ j => simpa using h3 j (by omega)
theorem txt_find (s : List Nat) (c : Nat) : (Txt.find (⟨s.toArray⟩ : Str) ⟨#[c]⟩ : Int) = findN c 0 s := by
  have at_iff : ∀ i, StrLaws.At (⟨s.toArray⟩ : Str) ⟨#[c]⟩ (⟨s.toArray⟩ : Str).length i ↔ s[i]? = some c := fun i => StrLaws.subAt_one (⟨s.toArray⟩ : Str) c i
  unfold Txt.find
  rcases StrLaws.occ_head (⟨s.toArray⟩ : Str) ⟨#[c]⟩ 1 (Nat.le_refl 1) with ⟨h1, h2⟩ | ⟨i, r, h1, h2, h3⟩
  · rcases findN_spec c s 0 with ⟨g1, g2⟩ | ⟨i, g1, g2, g3⟩
    · rw [g1]
      rw [h1]
    · exact absurd ((at_iff i).mpr g2) (h2 i)
  · rcases findN_spec c s 0 with ⟨g1, g2⟩ | ⟨j, g1, g2, g3⟩
    · exact absurd ((at_iff i).mp h2) (g2 i)
    · rw [g1]
      have e : i = 0 + j := by
        have a1 : ¬ i < j := fun q => g3 i q ((at_iff i).mp h2)
        have a2 : ¬ j < i := fun q => h3 j q ((at_iff j).mpr g2)
        omega
      rw [h1, ← e]
theorem o_find {K : PySem.W.Frag} : Op2 K (fun x y H Q => ∃ a b, x = .str a ∧ [y] = [.str b] ∧ Q (.int (Txt.find a b)) H) oFind := by
  intro T N H d c x y Q rd rc h
  cases d <;> first | exact False.elim h | skip
  rename_i s
  cases c <;> first | exact False.elim h | skip
  rename_i t
  cases t with
  | nil => exact h.elim
  | cons c t =>
    cases t with
    | cons _ _ => exact h.elim
    | nil =>
      obtain rfl : x = .str ⟨s.toArray⟩ := rd
      obtain rfl : y = .str ⟨#[c]⟩ := rc
      refine ⟨_, _, rfl, rfl, ?_⟩
      have h' : OkR K N H Q (if s.length ≤ LIM then .ok (.val (.int (findN c 0 s))) else .bad) := h
      by_cases hl : s.length ≤ LIM
      · rw [if_pos hl] at h'
        exact h' _ H (Same.refl H) (by show V.int _ = _; rw [txt_find])
      · rw [if_neg hl] at h'
        exact h'.elim
theorem nx_find : NoEx2 oFind := by
  intro d c e h
  unfold oFind at h
  split at h <;> (try split at h) <;> cases h
theorem fl_find : Fl2 oFind := by
  intro d c s h
  unfold oFind at h
  split at h <;> (try split at h) <;> cases h <;> exact ⟨_, rfl, rfl⟩
theorem x_find (ha : SE X W a m l) (hb : SE X W b n k) (hs : starEach [b] X.env = [(false, eval b X.env)] := by rfl) (hbase : attributeBase a "find" X.env (eval a X.env) = eval a X.env := by rfl) (hline : (apos.endLine == pos.line) = true := by rfl) :
    SE X W (.Call (.Attribute a "find" apos) [b] [] pos) (eM D.isS oFind m n) [] :=
  x_flat (PE.imp (pe_m1 F.slot_str_find F.type_str_find mt_find ha hb hs hbase hline) fun σ H Q q => simM o_find nx_find str_is σ H Q q) (fl_eM fl_find)

/-! xs.index(y) -/
theorem idxN_spec (p : D) : ∀ (ds : List D) (k i : Nat), idxN p k ds = some i → ∃ j z, i = k + j ∧ ds[j]? = some z ∧ PyData.eqv z.py p.py = true ∧ ∀ (n : Nat) (z' : D), n < j → ds[n]? = some z' → PyData.eqv z'.py p.py = false
  | [], k, i, h => by cases h
  | x :: r, k, i, h => by
    by_cases hx : PyData.eqv x.py p.py = true
    · rw [idxN, if_pos hx] at h
      cases h
      exact ⟨0, x, rfl, rfl, hx, fun n z' hn => by omega⟩
    · rw [idxN, if_neg hx] at h
      obtain ⟨j, z, h1, h2, h3, h4⟩ := idxN_spec p r (k + 1) i h
      refine ⟨j + 1, z, by omega, h2, h3, fun n z' hn hz => ?_⟩
      cases n with
      | zero =>
        have e : x = z' := by simpa using hz
        rw [← e]
        simpa using hx
      | succ n => exact h4 n z' (by omega) (by simpa using hz)
theorem pyL_get : ∀ (ds : List D) (j : Nat), (D.pyL ds)[j]? = (ds[j]?).map D.py
  | [], j => by simp [D.pyL]
  | d :: r, 0 => by simp [D.pyL]
  | d :: r, j + 1 => by simpa [D.pyL] using pyL_get r j
theorem o_index {K : PySem.W.Frag} : Op2 K (fun x y H Q => rIndexD K x [y] H Q) oIndex := by
  intro T N H d c x y Q rd rc h
  cases d <;> first | exact False.elim h | skip
  rename_i ds
  have h' : OkR K N H Q (if c.shp DEP && D.shpL DEP ds then (match idxN c 0 ds with | some k => .ok (.val (.int k)) | none => .bad) else .bad) := h
  obtain ⟨hl, h'⟩ := ok_if h'
  rw [Bool.and_eq_true] at hl
  obtain ⟨a, xs, rfl, s1, r1⟩ := rd
  cases hi : idxN c 0 ds with
  | none => rw [hi] at h'; exact h'.elim
  | some i =>
    rw [hi] at h'
    obtain ⟨j, z, e, h2, h3, h4⟩ := idxN_spec c ds 0 i hi
    rw [Nat.zero_add] at e
    subst e
    refine ⟨a, y, c.py, D.pyL ds, i, z.py, rfl, rfl, .lst (.inl (.inl s1.2)) (RepL.dp _ _ xs hl.2 r1), Rep.dp _ _ y hl.1 rc, shp_shaped (n := DEP + 1) (d := .lst ds) (by decide) hl.2, shp_shaped (by decide) hl.1, by rw [pyL_get, h2]; rfl, h3, fun n z' hn hz => ?_, h' _ H (Same.refl H) rfl⟩
    rw [pyL_get] at hz
    cases hq : ds[n]? with
    | none => rw [hq] at hz; cases hz
    | some w =>
      rw [hq] at hz
      cases hz
      exact h4 n w hn hq
theorem nx_index : NoEx2 oIndex := by
  intro d c e h
  unfold oIndex at h
  split at h <;> (try split at h) <;> (try split at h) <;> cases h
theorem fl_index : Fl2 oIndex := by
  intro d c s h
  unfold oIndex at h
  split at h <;> (try split at h) <;> (try split at h) <;> cases h <;> exact ⟨_, rfl, rfl⟩
theorem x_index (hu : X.A.units + 65 < cLine) (ha : SE X W a m l) (hb : SE X W b n k)
    (hbase : attributeBase a "index" X.env (eval a X.env) = eval a X.env := by rfl)
    (hfew : ((backTo cpos (starEach [b] X.env)).all (fun x => !x.1) && (backToKw cpos (keywordEach [] X.env)).all (fun x => x.1.isSome) && decide ([b].length + ([] : List Keyword).length + (if ([] : List Keyword).isEmpty then 0 else 1) < 30)) = true := by rfl)
    (hline : (apos.endLine == cpos.line) = true := by rfl) (hs : starEach [b] X.env = (false, eval b X.env) :: starEach [] X.env := by rfl) (hplain : (backTo cpos (starEach ([] : List Expr) X.env)).any (·.1) = false := by rfl) :
    SE X W (.Call (.Attribute a "index" apos) [b] [] cpos) (eM D.isL oIndex m n) [] :=
  x_flat (PE.imp (pe_bm PySem.F.plainAttrs_list PySem.F.slot_list_index PySem.F.type_list_index (mt_indexD hu) ha (pa_cons hb pa_nil hs) hbase hfew hline hs hplain) fun σ H Q q => simM (TT := tyV X.K "list") o_index nx_index lst_is σ H Q q) (fl_eM fl_index)

/-! {'W': 'L', ..}[x]: a display of constants, read at once -/
def kcv : List Nat × D → Key × V
  | (s, .str t) => (.inr ⟨s.toArray⟩, .str ⟨t.toArray⟩)
  | (s, .int i) => (.inr ⟨s.toArray⟩, .int i)
  | (s, _) => (.inr ⟨s.toArray⟩, .non)
/-- the last pair of a key counts -/
def lookD (kvs : List (List Nat × D)) (s : List Nat) : Option D := (kvs.find? fun p => p.1 == s).map (·.2)
def eDic (kvs : List (List Nat × D)) (k : Ex) : Ex := fun e => (k e).bind fun x => match x.d with
  | .str s => (match lookD kvs s with
    | some d => .ok (.val d)
    | none => .bad)
  | _ => .bad
/-- what is shown of the constants: keys unlike, values texts or ints -/
def dicOk (kvs : List (List Nat × D)) : Bool := decide (kvs.length ≤ 15) && kvs.all (fun p => match p.2 with | .str _ => true | .int _ => true | _ => false) && kvs.all (fun p => decide (valV (mergeK [] (kvs.map kcv)) (kcv p).1 = some (kcv p).2))
theorem tPairs_const : ∀ (kvs : List (Key × V)) (σ : L2.St) (H : Hp) (Q : List (V × V) → Hp → Prop), Q (kvs.map fun kv => (kV kv.1, kv.2)) H → tPairs (kvs.map fun kv => (tC (kV kv.1), tC kv.2)) σ H Q
  | [], _, _, _, q => q
  | p :: r, σ, H, Q, q => tPairs_const r σ H _ q
theorem x_dic {keys : List (Option Expr)} {values : List Expr} {p1 : Pos} (kvs : List (List Nat × D)) (hu : X.A.units + 65 < cLine) (h : PPs X p1 keys values ((kvs.map kcv).map fun kv => (tC (kV kv.1), tC kv.2))) (hb : SE X W b n k) (ok : dicOk kvs = true := by decide +kernel)
    (hall : keys.all (·.isSome) = true := by rfl) (hl : keys.length = values.length := by rfl) (h0 : keys ≠ [] := by exact List.cons_ne_nil _ _) (h15 : keys.length ≤ 15 := by decide) (hs : NoSl b := by exact fun _ _ => rfl) :
    SE X W (.Subscript (.Dict keys values p1) b pos) (eDic kvs n) [] := by
  refine x_flat (l := []) (PE.imp (pe_dget (by omega) (pe_disp h hall hl h0 h15) hb hs) fun σ H Q ⟨T, B, Z, rt, e, r, q⟩ => ?_) fun e s q => ?_
  · unfold eDic at q
    simp only [dicOk, Bool.and_eq_true, decide_eq_true_eq] at ok
    obtain ⟨⟨ok1, ok2⟩, ok3⟩ := ok
    intro p hp
    refine tPairs_const _ σ _ _ ⟨upd_same, _, rfl, by rw [List.length_map]; exact ok1, ?_⟩
    rw [upd_upd]
    have sm : Same H (upd H p (.dK (mergeK [] (kvs.map kcv)))) := same_new hp
    refine tE_go (r.ext sm) (fun d hd c o H' sm' => by rw [hd] at q; exact (fun z9 => q c o H' (sm.trans sm') (z9.mo sm))) (fun hd => by rw [hd] at q; exact q) fun s y H2 hs2 sm2 r2 rs => ?_
    rw [hs2, R.bind_ok] at q
    have rd := rs.d (N := NZ W.g Z e rt k (upd H p (.dK (mergeK [] (kvs.map kcv))))) fun a z => .inr (.inl z)
    cases hd : s.d <;> simp only [hd] at q
    rename_i t
    cases hk : lookD kvs t with
    | none => simp only [hk] at q
    | some d =>
      simp only [hk] at q
      rw [hd] at rd
      obtain rfl : y = .str ⟨t.toArray⟩ := rd
      unfold lookD at hk
      cases hf : kvs.find? fun p => p.1 == t with
      | none => rw [hf] at hk; cases hk
      | some kd =>
        rw [hf] at hk
        cases hk
        have hm := List.mem_of_find?_eq_some hf
        have hp1 : kd.1 = t := by simpa using List.find?_some hf
        have hv := of_decide_eq_true (List.all_eq_true.mp ok3 kd hm)
        have hval := List.all_eq_true.mp ok2 kd hm
        refine ⟨p, (kcv kd).2, rfl, .inl ⟨_, (kcv kd).1, .inl (sm2 _ _ upd_same), ?_, hv.symm⟩, q _ H2 (sm.trans sm2) ?_⟩
        · obtain ⟨s1, d1⟩ := kd
          cases hp1
          cases d1 <;> rfl
        · obtain ⟨s1, d1⟩ := kd
          cases d1 <;> first | (simp at hval; done) | rfl
  · unfold eDic at q
    simp only [dicOk, Bool.and_eq_true, decide_eq_true_eq] at ok
    obtain ⟨⟨ok1, ok2⟩, ok3⟩ := ok
    cases hn : n e with
    | bad => rw [hn] at q; cases q
    | ex d => rw [hn] at q; cases q
    | ok x =>
      rw [hn, R.bind_ok] at q
      cases hd : x.d <;> simp only [hd] at q <;> first | cases q | skip
      rename_i t
      cases hk : lookD kvs t with
      | none => simp only [hk] at q; cases q
      | some d =>
        simp only [hk] at q
        cases q
        unfold lookD at hk
        cases hf : kvs.find? fun p => p.1 == t with
        | none => rw [hf] at hk; cases hk
        | some kd =>
          rw [hf] at hk
          cases hk
          have hval := List.all_eq_true.mp ok2 kd (List.mem_of_find?_eq_some hf)
          refine ⟨_, rfl, ?_⟩
          obtain ⟨s1, d1⟩ := kd
          cases d1 <;> first | (simp at hval; done) | rfl
theorem pe_strC {i : Str} (s : List Nat) {j p} (h : i = ⟨s.toArray⟩ := by decide +kernel) : PE X (.Constant (.str i) j p) (tC (.str ⟨s.toArray⟩)) := by
  rw [← h]
  exact pe_str
end
end Tg

/-! Tg, part 15c: raise; try .. except E as e: c = e, the exception tracked behind the clause; isinstance of it. -/
namespace Tg
open PySem PySem.Spec PyProof.Rows L2

theorem ext_ok {P : Program} {w : World} {H : Hp} {h : Heap} {a : Addr} {cls : Value} {d : Option Addr} {oe : Obj} {vs : Array Value} (e : h.get? a = some oe) (z : Zc cls d oe) (hd : oe.data = .fields vs) : ObjOk P w H h a (ExT cls d a) :=
  ⟨⟨oe, vs, e, z, hd⟩, ⟨oe, e⟩, fun _ _ ⟨o, v, q, r⟩ k => ⟨o, v, k o q, r⟩⟩
section
variable {X : Cx} {pins : List (Addr × Obj)} {σ : L2.St} {H : Hp} {sI s' : Shared} {B : Heap}
/-- an exception that has landed is tracked from now on -/
theorem land_track {a : Addr} {cls : Value} {d : Option Addr} {oe : Obj} {vs : Array Value} (I : Inv X pins σ H sI) (gr : ∀ b o, sI.heap.get? b = some o → b ∉ frs X.stack → B.get? b = some o) (st : B.StaysIn s'.heap) (up : sI.heap.UpToSlots s'.heap)
    (os : s'.os = sI.os) (ag : AllBare s'.gens) (new : sI.heap.get? a = none) (na : H a = none) (he : s'.heap.get? a = some oe) (hz : Zc cls d oe) (hd : oe.data = .fields vs) : Inv X pins σ (upd H a (ExT cls d a)) s' := by
  have inF : ∀ b ∈ frs X.stack, ∀ o, sI.heap.get? b = some o → ∃ sl, s'.heap.get? b = some { o with slots := sl } := fun b hb o e => by
    obtain ⟨_, o2, e2, nd⟩ := I.stack.mem hb
    rw [e] at e2
    cases e2
    exact up b o e nd
  have hk : HOk X.prog X.w (upd H a (ExT cls d a)) s'.heap := HOk.laidN ((I.inGround gr).kept st) (fun _ _ q => q) na (ext_ok he hz hd)
  have ne : ∀ {b : Addr} {u : HO}, H b = some u → b ≠ a := fun {b u} e z => by
    rw [z, na] at e
    cases e
  have J := I.call (ch := []) (h' := s'.heap) (g' := s'.gens) (t' := s'.toks) (d' := s'.drawn) (H' := upd H a (ExT cls d a))
    ⟨fun b o e _ nb _ => st b o (gr b o e nb), fun b o e _ hb _ => inF b hb o e, fun b o e q _ => by
      rw [upd_ne (fun z => by rw [z, new] at e; cases e)]
      exact q, fun b o e _ => by
      by_cases hb : b ∈ frs X.stack
      · obtain ⟨_, q⟩ := inF b hb o e
        exact ⟨_, q⟩
      · exact ⟨o, st b o (gr b o e hb)⟩, fun b xs e => by rw [upd_ne (ne e)]; exact e, fun b o u e => by rw [upd_ne (ne e)]; exact e, fun b ps e => ⟨#[], by rw [upd_ne (ne e), e]; simp⟩⟩
    hk ag (fun _ z => nomatch z)
  obtain ⟨b1, b2, b3, b4, b5⟩ := s'
  have e5 : b5 = sI.os := os
  subst e5
  exact J
theorem suite0 {s : Shared} (I : Inv X pins σ H s) (a : Addr) : Inv (X.suite a (X.pn ++ pins)) [] σ H s :=
  ⟨I.ok.suite _ _, I.os, I.bare, I.base, I.loc, I.cell, I.free, I.freeC, fun p hp => I.pin p (by rw [List.append_nil] at hp; exact hp), I.hok, I.len⟩
theorem unsuite0 {s : Shared} {a : Addr} {pn2 : List (Addr × Obj)} (I : Inv (X.suite a (X.pn ++ pins)) pn2 σ H s) (ok : X.Ok) : Inv X pins σ H s :=
  ⟨ok, I.os, I.bare, I.base, I.loc, I.cell, I.free, I.freeC, fun p hp => I.pin p (List.mem_append_left _ hp), I.hok, I.len⟩
end
/-- what the clause wishes of an exception of the body -/
def wTr (K : PySem.W.Frag) (c : Value) (i : Nat) (ts : TS) (Wo : WX) (D : Ends) : WX := fun cls d σ H =>
  ∃ b, PySem.W.exmOne K cls c = some b ∧ (b = true → ∀ a, H a = none → ts { nx := fun σ2 H2 => D.nx (σ2.set i none) H2, rt := D.rt, bk := fun σ2 H2 => D.bk (σ2.set i none) H2, ct := fun σ2 H2 => D.ct (σ2.set i none) H2 } (σ.set i (some (.ref a))) (upd H a (ExT cls d a))) ∧ (b = false → Wo cls d σ H)
section
variable {X : Cx} {x n : Str} {c : Value} {i : Nat} {body suite : List Stmt} {b0 : Stmt} {np pos pos2 : Pos} {tb : WX → TS} {ts : TS} {Wo : WX}
theorem ps_try_tr (hs : X.stack = X.env :: X.outer) (hf : X.env.frame = some X.env.locals) (hN : X.N.Nodup) (hi : X.N[i]? = some n) (hln : X.env.kindOf n = some .local) (hc : Names X x c) (tk : Takes X Wo)
    (hb : ∀ (W : WX) (pn : List (Addr × Obj)) (xe : Value → Shared → Prop), Takes (X.tr pn xe) W → PassesOwn (model X.prog X.w) X.A X.env xe → PSs (X.tr pn xe) body (tb W))
    (hsu : ∀ (a : Addr) (pn : List (Addr × Obj)), PSs (X.suite a pn) (b0 :: suite) ts) :
    PS X (.Try body [.ExceptHandler (some (.Name x np)) (some n) (b0 :: suite) pos2] [] [] pos) (fun D σ H => tb (wTr X.K c i ts Wo D) D σ H) := by
  refine ⟨fun pins s σ H D I h => ?_⟩
  have ok := I.ok
  have frm : X.A.frames = some (X.env :: X.outer) := by rw [ok.frames, hs]
  refine wpAny_Try_except ?_
  refine wpAny_mono ((hb (wTr X.K c i ts Wo D) (X.pn ++ pins) (fun e s1 => wpAny (model X.prog X.w) X.A (noteFrame e X.env) (fun _ s2 => wpAny (model X.prog X.w) X.A (setFlight e none) (fun _ s3 =>
    wpAny (model X.prog X.w) X.A (handleBy e X.env [.ExceptHandler (some (.Name x np)) (some n) (b0 :: suite) pos2]) (L2.SP X pins D) X.xe s3) X.xe s2) X.xe s1) (fun u s' fly => ?_) PassesOwn.looking).run [] s σ H D (I.toTry _) h) (fun f s1 hsp => ?_) (fun e s1 he => he)
  · obtain ⟨a, B, sI, pins2, τ, G, cls, d, rfl, J2, gr, up, sky, na, os, ag, b, hb1, yes, no⟩ := fly
    have J : Inv X pins τ G sI := J2.ofTry ok
    have sky2 : Sky B (X.env :: X.outer) a (Zc cls d) X.env.locals s'.heap := by rw [← hs]; exact sky
    show wpAny (model X.prog X.w) X.A (noteFrame (.ref a) X.env) _ _ _
    refine Sky.land Zc.steady frm hf sky2 fun h3 fl3 up3 => ?_
    have J3 : Inv X pins τ G { s' with heap := h3 } := J.landed gr fl3.1 (up.trans up3) os ag
    obtain ⟨oe3, vs3, he3, hz3, hd3⟩ := fl3.there
    have out : ∀ {h : Heap} {o : Obj} {vs : Array Value}, h.FunFrames B (X.env :: X.outer) → h.get? a = some o → o.data = .fields vs → a ∉ frs (X.env :: X.outer) := fun {h o vs} ff e dd hm => by
      obtain ⟨_, o2, e2, hnf⟩ := ff.mem hm
      rw [e] at e2
      cases e2
      exact hnf _ dd
    have nfr := out fl3.2.2.1 he3 hd3
    have new : sI.heap.get? a = none := by
      cases e : sI.heap.get? a with
      | none => rfl
      | some o =>
        have z := gr a o e (by rw [hs]; exact nfr)
        have z2 : B.get? a = none := fl3.2.1
        rw [z2] at z
        cases z
    have nL : a ≠ X.env.locals := fun z => nfr (List.mem_filterMap.mpr ⟨X.env, List.mem_cons_self, by rw [hf, z]⟩)
    have nF : a ∉ X.fs := fun hm => by
      obtain ⟨e, he, q⟩ := List.mem_filterMap.mp hm
      exact nfr (List.mem_filterMap.mpr ⟨e, List.mem_cons_of_mem _ he, q⟩)
    have S3 := J3.suite he3 hd3 na nL nF
    refine wpAny_handleBy_cons (codeAny_handlers_test ?_) (by intro q; cases q)
    have LT : PySem.W.Looks (model X.prog X.w) h3 (typeOf (.ref a)) cls := fun A Q E s k q => wpAny_typeOf_ref (k _ _ he3) (by rw [hz3.1]; exact q)
    have LM := PySem.W.exm_one (M := model X.prog X.w) (J3.kIn) LT hb1
    have test : ∀ {Q : Value → Shared → Prop} {E : Value → Shared → Prop}, Q c { s' with heap := h3 } → wpAny (model X.prog X.w) (X.A.mark (some (.ref a))) (eval (.Name x np) X.env) Q E { s' with heap := h3 } := fun {Q E} q => by
      obtain ⟨hg, hdbg, hm | ⟨hm, hv, hnn⟩⟩ := hc
      · exact ld_glob (X := X.suite a ((a, oe3) :: (X.pn ++ pins))) S3 hg hm q hdbg
      · exact ld_blt (X := X.suite a ((a, oe3) :: (X.pn ++ pins))) S3 hg hm hv q hnn hdbg
    refine test (LM.here ?_)
    cases b with
    | true =>
      refine codeAny_handlers_suite_as ?_
      refine HandSPX.lands_againZ fl3 fun h4 fl4 up4 => ?_
      obtain ⟨oe4, vs4, he4, hz4, hd4⟩ := fl4.there
      have S4 := suite0 (land_track (s' := { s' with heap := h4 }) J gr fl4.1 ((up.trans up3).trans up4) os ag new na he4 hz4 hd4) a
      refine store_ok (X := X.suite a (X.pn ++ pins)) (v := .ref a) S4 hN hi (.inl hln) rfl (fun s5 S5 => ?_) (.inr hln)
      refine wpAny_mono ((hsu a (X.pn ++ pins)).run [] s5 _ _ _ S5 (yes rfl a na)) (fun f s6 hsp => ?_) (fun _ _ z => False.elim z)
      have fin : ∀ {τ6 : L2.St} {G6 : Hp} {Q : Shared → Prop}, Inv (X.suite a (X.pn ++ pins)) [] τ6 G6 s6 → (∀ s7, Inv X pins (τ6.set i none) G6 s7 → Q s7) →
          wpAny (model X.prog X.w) X.A (do bindName X.env n .none; unbindBehindTheSuite X.env n pos2) (fun _ s7 => Q s7) X.xe s6 := fun {τ6 G6 Q} S6 hq => gone_ok (unsuite0 S6 ok) hN hi hln hq
      cases f with
      | next =>
        obtain ⟨τ6, G6, S6, q6⟩ := hsp
        exact fin S6 fun s7 J7 => ⟨_, _, J7, q6⟩
      | brk =>
        obtain ⟨τ6, G6, S6, q6⟩ := hsp
        exact fin S6 fun s7 J7 => ⟨_, _, J7, q6⟩
      | cont =>
        obtain ⟨τ6, G6, S6, q6⟩ := hsp
        exact fin S6 fun s7 J7 => ⟨_, _, J7, q6⟩
      | ret u =>
        obtain ⟨v6, τ6, G6, S6, r6, q6⟩ := hsp
        exact fin S6 fun s7 J7 => ⟨_, _, _, J7, r6, q6⟩
    | false =>
      show wpAny _ X.A (handleBy (.ref a) X.env []) _ _ _
      refine wpAny_handleBy_nil ?_
      obtain ⟨k1, k2, k3, oe, vs, T, oT, ts', he, hz, hd, h1, hr⟩ := id fl3
      unfold PySem.passOn
      refine wpAny_bind (wpAny_field he hd h1 ?_)
      rw [if_neg (show ¬ ((Value.ref T == Value.none) = true) from by simp)]
      have fin : wpAny (model X.prog X.w) X.A (setFlight (.ref a) X.env.frame) (fun _ s4 => wpAny (model X.prog X.w) X.A (throw (.ref a) : Sem Flow) (L2.SP X pins D) X.xe s4) X.xe { s' with heap := h3 } := by
        rw [hf]
        refine HandSPX.setFlight_upZ fl3 fun h4 hh4 up4 => wpAny_throw (tk _ _ ?_)
        exact ⟨a, B, sI, pins, τ, G, cls, d, rfl, J, gr, (up.trans up3).trans up4, .inr (.inr (by rw [hs]; exact hh4)), na, os, ag, no rfl⟩
      first
        | exact wpAny_bind (wpAny_pure (wpAny_bind fin))
        | exact wpAny_bind fin
  · cases f with
    | next =>
      obtain ⟨τ, G, J, q⟩ := hsp
      exact wpAny_execs_nil ⟨τ, G, J.ofTry ok, q⟩
    | brk =>
      obtain ⟨τ, G, J, q⟩ := hsp
      exact ⟨τ, G, J.ofTry ok, q⟩
    | cont =>
      obtain ⟨τ, G, J, q⟩ := hsp
      exact ⟨τ, G, J.ofTry ok, q⟩
    | ret u =>
      obtain ⟨v, τ, G, J, r, q⟩ := hsp
      exact ⟨v, τ, G, J.ofTry ok, r, q⟩
end

/-! own exceptions -/
structure Exc1 (K : PySem.W.Frag) (mg : Str → Option Value) (nm : String) (C : Addr) : Prop where
  g : mg (Str.ofString nm) = some (.ref C)
  ns : PySem.W.nsIn K mainGlobals (Str.ofString nm) = some (some (.ref C))
  x : PySem.W.excIn K C [.type "ValueError", .type "Exception", .type "BaseException", .type "object"] "ValueError.__new__" = true
  k : PySem.W.keepIn K (.ref C) = true
  b : PySem.W.subIn K (.ref C) (.type "BaseException") = some true
  t : PySem.W.typeIn K (.ref C) = some (.type "type")
/-- isinstance(e, D), except D: by the subclass looks -/
theorem kitE_own {K : PySem.W.Frag} {C D : Addr} {b : Bool} (ss : PySem.W.subIn K (.ref C) (.ref C) = some true) (i : PySem.W.isClsIn K D = true) (t : PySem.W.typeIn K (.ref D) = some (.type "type")) (s : PySem.W.subIn K (.ref C) (.ref D) = some b) : PySem.W.kitOne K (.ref C) (.ref D) = some b := by
  unfold PySem.W.kitOne
  by_cases h : C = D
  · subst h
    rw [ss] at s
    cases s
    simp
  · have hf : ¬ ((Value.ref C == Value.ref D) = true) := by simpa using h
    rw [if_neg hf]
    have i2 : (PySem.W.clsIn K D).isSome = true := i
    show (if ((PySem.W.clsIn K D).isSome && PySem.W.typeIn K (.ref D) == some (.type "type")) = true then PySem.W.subIn K (.ref C) (.ref D) else none) = some b
    rw [i2, t, if_pos (by rfl)]
    exact s
theorem kitE_val {K : PySem.W.Frag} {C : Addr} {T : String} {b : Bool} (hm : PySem.W.kitMeta T = true) (s : PySem.W.subIn K (.ref C) (.type T) = some b) : PySem.W.kitOne K (.ref C) (.type T) = some b := by
  unfold PySem.W.kitOne
  have hf : ¬ ((Value.ref C == Value.type T) = true) := by simp
  rw [if_neg hf]
  show (if PySem.W.kitMeta T = true then PySem.W.subIn K (.ref C) (.type T) else none) = some b
  rw [if_pos hm]
  exact s
theorem exm_own {K : PySem.W.Frag} {C D : Addr} (db : PySem.W.subIn K (.ref D) (.type "BaseException") = some true) (i : PySem.W.isClsIn K D = true) (t : PySem.W.typeIn K (.ref D) = some (.type "type")) (s : PySem.W.subIn K (.ref C) (.ref D) = some true) : PySem.W.exmOne K (.ref C) (.ref D) = some true := by
  unfold PySem.W.exmOne
  rw [db, if_pos (by rfl)]
  have i2 : (PySem.W.clsIn K D).isSome = true := i
  show (if ((PySem.W.clsIn K D).isSome && PySem.W.typeIn K (.ref D) == some (.type "type")) = true then PySem.W.subIn K (.ref C) (.ref D) else none) = some true
  rw [i2, t, if_pos (by rfl)]
  exact s
def sRaise (nm : String) : Sx := fun _ => .ex (.exc nm [])
section
variable {X : Cx} {W : Wi} {H0 : Hp} {Z0 : Addr → Prop} {lk : List Nat}
theorem s_raise {nm : String} {C : Addr} {x m : Str} {j : Nat} {p p2 pos pos2 : Pos} (E : Exc1 X.K X.mg nm C) (hc : X.calm = true) (tk : Takes X W.w) (hxr : ∀ H0 d c o H, XR X.K H0 d c o H → W.xr H0 d c o H) (hx : x = Str.ofString nm := by rfl) (hg : Gl X x := by rfl)
    (hdb : (x == ("__debug__" : Str)) = false := by decide) : SS X W H0 Z0 lk (.Raise (some (.Call (.Name x p) [.Constant (.str m) j p2] [] pos)) none pos2) (sRaise nm) := by
  subst hx
  exact PS.imp (ps_raise hc tk (pmk_own PySem.F.excBase_ValueError E.x E.g E.k (raises_own E.b E.t) hg hdb)) fun D σ H ⟨T, Zl, Hb, e, ⟨s0, _⟩, q⟩ => q (.ref C) none σ H s0 ⟨H0, Same.refl _, hxr _ _ _ _ _ ⟨⟨C, rfl, E.ns⟩, .inl ⟨rfl, .inl rfl⟩⟩⟩

/-! isinstance of a caught exception -/
def eIsX (tab : List (String × Bool)) (m : Ex) : Ex := fun e => (m e).bind fun s => match s.d with
  | .exc nm _ => (match tab.lookup nm with
    | some b => .ok (.val (.bl b))
    | none => .bad)
  | _ => .bad
def rIsX (K : PySem.W.Frag) : List V → Hp → VK → Prop := fun xs H Q => ∃ (a D : Addr) (c : V) (cv : Value) (b : Bool), xs = [.ref a, c] ∧ XO H a D ∧ ExcC K D ∧ (∀ u, RelV c u → u = cv) ∧ PySem.W.kitOne K (.ref D) cv = some b ∧ Q (.bl b) H
theorem call_isX : CallR X (.builtin "isinstance") (rIsX X.K) := by
  intro pins s σ H xs us Q I r h
  obtain ⟨a, D, c, cv, b, rfl, ha, C, hcv, e, q⟩ := h
  cases r with
  | cons rx rr =>
    cases rr with
    | cons rt rr =>
      cases rr
      cases rx
      have ec := hcv _ rt
      subst ec
      obtain ⟨oe, od, J⟩ : ∃ oe od, PySem.W.InstAt s.heap a oe D od := by
        rcases ha with ha | ⟨dd, gs, ha, hd⟩
        · obtain ⟨⟨oe, vs, hget, hz, hv⟩, _⟩ := (show ObjOk X.prog X.w H s.heap a (ExT (.ref D) none a) from I.hok a _ ha)
          refine ⟨oe, none, ?_⟩
          obtain ⟨oc, od, oda, osl⟩ := oe
          obtain ⟨h1, h2⟩ := hz
          dsimp only at h1 h2 hv
          subst h1 h2 hv
          exact ⟨hget, rfl, rfl, trivial⟩
        · obtain ⟨⟨oe, vs, hget, hz, hv⟩, _⟩ := (show ObjOk X.prog X.w H s.heap a (ExT (.ref D) (some dd) a) from I.hok a _ ha)
          obtain ⟨mA, hns, _⟩ := (show ObjOk X.prog X.w H s.heap dd (.xd gs) from I.hok dd _ hd)
          obtain ⟨od, ho, _⟩ := lookIn_ns hns
          refine ⟨oe, some od, ?_⟩
          obtain ⟨oc, od', oda, osl⟩ := oe
          obtain ⟨h1, h2⟩ := hz
          dsimp only at h1 h2 hv
          subst h1 h2 hv
          exact ⟨hget, rfl, rfl, ho⟩
      have hcl : (PySem.W.clsIn X.K D).isSome = true := by
        obtain ⟨cd, hc, _⟩ := PySem.W.any_some C.hd
        rw [hc]; rfl
      exact PySem.W.kia_one (PySem.W.kitx_exc hcl C.hg C.hk C.hs C.ha C.hn C.ht C.hm) I.kIn J e (fun z => nomatch z) fun tk => ⟨.bl b, H, I.kept (t' := tk) fun _ _ z => z, rfl, q⟩
/-- what is known of the classes that may be caught, against the class that is asked for -/
def TabOk (K : PySem.W.Frag) (cv : Value) (tab : List (String × Bool)) : Prop := ∀ nm b, tab.lookup nm = some b → ∀ C, PySem.W.nsIn K mainGlobals (Str.ofString nm) = some (some (.ref C)) → ExcC K C ∧ PySem.W.kitOne K (.ref C) cv = some b
theorem tab_nil {K : PySem.W.Frag} {cv : Value} : TabOk K cv [] := fun _ _ h => nomatch h
theorem tab_cons {K : PySem.W.Frag} {cv : Value} {nm : String} {b : Bool} {C : Addr} {r : List (String × Bool)} (ns : PySem.W.nsIn K mainGlobals (Str.ofString nm) = some (some (.ref C))) (e : ExcC K C) (k : PySem.W.kitOne K (.ref C) cv = some b) (h : TabOk K cv r) : TabOk K cv ((nm, b) :: r) := fun n c hl D hD => by
  by_cases hn : n = nm
  · subst hn
    rw [ns] at hD
    cases hD
    have hb : b = c := by simpa [List.lookup] using hl
    subst hb
    exact ⟨e, k⟩
  · have hl2 : r.lookup n = some c := by
      rw [List.lookup] at hl
      have q : (n == nm) = false := by simpa using hn
      rw [q] at hl
      exact hl
    exact h n c hl2 D hD
variable {a : Expr} {m : Ex} {l : List Nat} {p pos : Pos}
theorem isX_sim {cx : Expr} {c : V} {cv : Value} {tab : List (String × Bool)} (TB : TabOk X.K cv tab) (hcv : ∀ u, RelV c u → u = cv) (σ : L2.St) (H : Hp) (Q : VK) (q : tE X.K W (eIsX tab m) [] σ H Q) :
    tCB (rIsX X.K) (tCons (tE X.K W m l) (tCons (tC c) tNil)) σ H Q := by
  obtain ⟨T, B, Z, rt, e, r, q⟩ := q
  unfold eIsX at q
  refine tE_go r (fun d hd => by rw [hd] at q; exact q) (fun hd => by rw [hd] at q; exact q) fun s x H1 hs sm r1 rs => ?_
  rw [hs, R.bind_ok] at q
  have rd := rs.d (N := NZ W.g Z e rt l H) fun a z => .inr (.inl z)
  cases hd : s.d with
  | exc nm fs =>
    simp only [hd] at q
    cases hl : tab.lookup nm with
    | none => simp only [hl] at q
    | some b =>
      simp only [hl] at q
      rw [hd] at rd
      obtain ⟨a, C, rfl, hns, h⟩ := rd
      obtain ⟨t1, t2⟩ := TB nm b hl C hns
      rcases h with ⟨_, h⟩ | ⟨dd, xs, h0, h1, h2, _⟩
      · exact ⟨a, C, c, cv, b, rfl, h, t1, hcv, t2, q _ H1 sm rfl⟩
      · exact ⟨a, C, c, cv, b, rfl, .inr ⟨dd, _, h1, h2⟩, t1, hcv, t2, q _ H1 sm rfl⟩
  | _ => simp only [hd] at q
theorem fl_isX {tab : List (String × Bool)} : ∀ e s, eIsX tab m e = .ok s → ∃ d, s = .val d ∧ d.flat = true := fun e s q => by
  unfold eIsX at q
  cases hm : m e with
  | bad => rw [hm] at q; cases q
  | ex d => rw [hm] at q; cases q
  | ok x =>
    rw [hm, R.bind_ok] at q
    cases hd : x.d with
    | exc nm fs =>
      simp only [hd] at q
      cases hl : tab.lookup nm with
      | none => simp only [hl] at q; cases q
      | some b => simp only [hl] at q; cases q; exact ⟨_, rfl, rfl⟩
    | _ => simp only [hd] at q; cases q
/-- isinstance(e, C), C an own class -/
theorem x_isO {x : Str} {C : Addr} {pt : Pos} (tab : List (String × Bool)) (TB : TabOk X.K (.ref C) tab) (hm : X.mg "isinstance" = none) (hC : X.mg x = some (.ref C)) (ha : SE X W a m l) (hg : Gl X "isinstance" := by rfl) (hg2 : Gl X x := by rfl) (hdb : (x == ("__debug__" : Str)) = false := by decide)
    (he : starEach [a, .Name x pt] X.env = (false, eval a X.env) :: starEach [.Name x pt] X.env := by rfl) (he2 : starEach [.Name x pt] X.env = (false, eval (.Name x pt) X.env) :: starEach [] X.env := by rfl) (hpl : (backTo pos (starEach [.Name x pt] X.env)).any (·.1) = false := by rfl) :
    SE X W (.Call (.Name "isinstance" p) [a, .Name x pt] [] pos) (eIsX tab m) [] :=
  PE.imp (pe_callB call_isX hg hm (by decide +kernel) (pa_cons ha (pa_cons (pe_glob (v := .ref C) hg2 hC rfl hdb) pa_nil he2) he) (by decide) (by decide) he hpl) fun σ H Q q => isX_sim (c := .ref C) (cx := a) TB (fun u h => h) σ H Q q
/-- isinstance(e, ValueError) -/
theorem x_isV {x : Str} (T0 : String) {pt : Pos} (tab : List (String × Bool)) (TB : TabOk X.K (.type T0) tab) (hm : X.mg "isinstance" = none) (hm2 : X.mg x = none) (hv2 : bootBuiltins x = some (.type T0)) (ha : SE X W a m l) (hg : Gl X "isinstance" := by rfl) (hg2 : Gl X x := by rfl) (hn : x ≠ "__name__" := by decide) (hdb : (x == ("__debug__" : Str)) = false := by decide)
    (he : starEach [a, .Name x pt] X.env = (false, eval a X.env) :: starEach [.Name x pt] X.env := by rfl) (he2 : starEach [.Name x pt] X.env = (false, eval (.Name x pt) X.env) :: starEach [] X.env := by rfl) (hpl : (backTo pos (starEach [.Name x pt] X.env)).any (·.1) = false := by rfl) :
    SE X W (.Call (.Name "isinstance" p) [a, .Name x pt] [] pos) (eIsX tab m) [] :=
  PE.imp (pe_callB call_isX hg hm (by decide +kernel) (pa_cons ha (pa_cons (pe_bltn (v := .ty T0) hg2 hm2 hv2 rfl hn hdb) pa_nil he2) he) (by decide) (by decide) he hpl) fun σ H Q q => isX_sim (c := .ty T0) (cx := a) TB (fun u h => h) σ H Q q

/-! try: .. except E as i: j = i -/
/-- a body of which an exception leaves the slots as they were -/
def tX (K : PySem.W.Frag) (W : Wi) (H0 : Hp) (Z0 : Addr → Prop) (lk : List Nat) (m : Sx) : TS := fun D σ H => ∃ (T : Tkn) (Zl : Nat → Addr → Prop) (Hb : Hp × Tkn) (e : En), Body K W.g H0 Z0 lk Zl Hb e σ H ∧ match m e with
  | .ex d => ∀ c o H', Same H H' → XC W.xr H d c o H' → W.w c o σ H'
  | r => Out K W H0 Z0 lk Zl Hb D r
abbrev SY (X : Cx) (W : Wi) (H0 : Hp) (Z0 : Addr → Prop) (lk : List Nat) (st : Stmt) (m : Sx) : Prop := PS X st (tX X.K W H0 Z0 lk m)
variable {st : Stmt} {body orelse : List Stmt} {M N : Sx} {n : Ex}
theorem y_set (i : Nat) {x : Str} {p : Pos} (hN : X.N.Nodup) (he : SE X W a m l) (hi : X.N[i]? = some x := by rfl) (hx : Loc X.env.scope x := by first | exact Or.inl rfl | exact Or.inr rfl) (hs : swapsWith a (some (.Name x p)) pos.line X.env = pure false := by rfl) (hf : X.fn x = true ∨ X.env.scope.names.lookup x = some .local := by first | exact .inl rfl | exact .inr rfl | assumption) (hl : allg W.g (W.g i) l = true := by rfl) :
    SY X W H0 Z0 lk (.Assign [.Name x p] a pos) (sSet l i m) := PS.imp (ps_set hN hi hx he hs hf) fun D σ H ⟨T, Zl, Hb, e, ⟨s0, kp, Z, rt, h1, h2, r⟩, q⟩ => by
  unfold sSet at q
  refine tE_go r (fun d hd c o H' sm => by rw [hd] at q; exact q c o H' sm) (fun hd => by rw [hd] at q; exact q) fun s x H1 hs sm r1 rs => ?_
  rw [hs, R.bind_ok] at q
  obtain ⟨Z', rt', z1, z2, r'⟩ := r.put sm rs i (allg_of hl)
  exact q _ H1 (.new s0 kp sm (up1 h1 z1) (up2 h2 z2) r')
theorem y_drop (he : SE X W a m l) (hs : swapsWith a none pos.line X.env = pure false := by rfl) : SY X W H0 Z0 lk (.Expr a pos) (sDrop m) := by
  refine PS.imp (ps_expr he hs) fun D σ H ⟨T, Zl, Hb, e, ⟨s0, kp, Z, rt, h1, h2, r⟩, q⟩ => ?_
  unfold sDrop at q
  refine tE_go r (fun d hd c o H' sm => by rw [hd] at q; exact q c o H' sm) (fun hd => by rw [hd] at q; exact q) fun s x H1 hs sm r1 rs => ?_
  rw [hs, R.bind_ok] at q
  exact q σ H1 (.new s0 kp sm h1 h2 r1)
theorem y_if {c : Expr} {t : Tx} {s1 s2 : Stmt} (hc : ST X W c t) (ha : SY X W H0 Z0 lk s1 M) (hb : SY X W H0 Z0 lk s2 N) : SY X W H0 Z0 lk (.If c [s1] [s2] pos) (sIf t M N) := by
  refine PS.imp (ps_if hc (pss_one ha) (pss_one hb)) fun D σ H ⟨T, Zl, Hb, e, ⟨s0, kp, Z, rt, h1, h2, r⟩, q⟩ => ?_
  unfold sIf at q
  refine tT_go r (fun d hd c o H' sm => by rw [hd] at q; exact q c o H' sm) (fun hd => by rw [hd] at q; exact q) fun c H1 hs sm r1 => ?_
  rw [hs, R.bind_ok] at q
  have B := Body.new (e := e) (Zl := Zl) (Hb := Hb) s0 kp sm h1 h2 r1
  cases c with
  | true =>
    rw [if_pos rfl] at q ⊢
    refine ⟨T, Zl, Hb, e, B, ?_⟩
    cases hM : M e with
    | ex d => rw [hM] at q; exact fun c o H' sm2 => (fun z9 => q c o H' (sm.trans sm2) (z9.mo sm))
    | ok f => rw [hM] at q; exact q
    | bad => rw [hM] at q; exact q.elim
  | false =>
    rw [if_neg Bool.false_ne_true] at q ⊢
    refine ⟨T, Zl, Hb, e, B, ?_⟩
    cases hM : N e with
    | ex d => rw [hM] at q; exact fun c o H' sm2 => (fun z9 => q c o H' (sm.trans sm2) (z9.mo sm))
    | ok f => rw [hM] at q; exact q
    | bad => rw [hM] at q; exact q.elim
/-- cs: the classes that may be caught here -/
def sTry (i j : Nat) (cs : List String) (M : Sx) : Sx := fun e => match M e with
  | .ok f => .ok f
  | .ex (.exc nm fs) => if nm ∈ cs ∧ i < e.length then .ok (.nx (((e.set i none).set j (some (.val (.exc nm fs)))).set i none)) else .bad
  | .ex _ => .bad
  | .bad => .bad
/-- each of them is caught -/
def CatOk (K : PySem.W.Frag) (c : Value) (cs : List String) : Prop := ∀ nm ∈ cs, ∀ C, PySem.W.nsIn K mainGlobals (Str.ofString nm) = some (some (.ref C)) → PySem.W.exmOne K (.ref C) c = some true
theorem cat_nil {K : PySem.W.Frag} {c : Value} : CatOk K c [] := fun _ h => nomatch h
theorem cat_cons {K : PySem.W.Frag} {c : Value} {nm : String} {C : Addr} {r : List String} (ns : PySem.W.nsIn K mainGlobals (Str.ofString nm) = some (some (.ref C))) (k : PySem.W.exmOne K (.ref C) c = some true) (h : CatOk K c r) : CatOk K c (nm :: r) := fun n hn D hD => by
  rcases List.mem_cons.mp hn with e | hn
  · subst e
    rw [ns] at hD
    cases hD
    exact k
  · exact h n hn D hD
theorem s_try {x n y : Str} {c : Value} (i j : Nat) {np yp np2 pa pos2 : Pos} (cs : List String) (hs : X.stack = X.env :: X.outer) (hf : X.env.frame = some X.env.locals) (hN : X.N.Nodup) (hc : Names X x c) (tk : Takes X W.w) (TC : CatOk X.K c cs)
    (hb : ∀ (w : WX) (pn : List (Addr × Obj)) (xe : Value → Shared → Prop), Takes (X.tr pn xe) w → SY (X.tr pn xe) ⟨XR X.K, w, W.g, W.fr, W.st⟩ H0 Z0 lk st M)
    (hi : X.N[i]? = some n := by rfl) (hln : X.env.kindOf n = some .local := by rfl) (hj : X.N[j]? = some y := by rfl) (hjl : X.env.scope.names.lookup y = some .local := by rfl) (hne : i ≠ j := by decide) (hsw : ∀ a pn, swapsWith (.Name n np2) (some (.Name y yp)) pa.line (X.suite a pn).env = pure false := by intro _ _; rfl)
    (hd : (n == ("__debug__" : Str)) = false := by decide) (hcd : (n == ("__classdict__" : Str)) = false := by decide) (hv : Vis X.env.scope n := by exact Or.inl rfl) :
    SS X W H0 Z0 lk (.Try [st] [.ExceptHandler (some (.Name x np)) (some n) [.Assign [.Name y yp] (.Name n np2) pa] pos2] [] [] pos) (sTry i j cs M) := by
  refine PS.imp (ps_try_tr hs hf hN hi hln hc tk (tb := fun w => tX X.K ⟨XR X.K, w, W.g, W.fr, W.st⟩ H0 Z0 lk M) (fun w pn xe tk2 _ => pss_one (hb w pn xe tk2)) (fun a pn => pss_one (ps_set (X := X.suite a pn) hN hj (.inl hjl) (pe_var (X := X.suite a pn) hi hv hd hcd) (hsw a pn) (.inr hjl)))) fun D σ H ⟨T, Zl, Hb, e, B, q⟩ => ?_
  refine ⟨T, Zl, Hb, e, B, ?_⟩
  unfold sTry at q
  cases hM : M e with
  | bad => rw [hM] at q; exact q.elim
  | ok f =>
    rw [hM] at q
    cases f with
    | nx e' => exact @fun T2 g σ' H' B => @q T2 ⟨g.h⟩ σ' H' B
    | rt s => exact @fun T2 g x H' sm rs => @q T2 ⟨g.h⟩ x H' sm rs
  | ex d =>
    rw [hM] at q
    cases d with
    | exc nm fs =>
      have q2 : Out X.K W H0 Z0 lk Zl Hb D (if nm ∈ cs ∧ i < e.length then .ok (.nx (((e.set i none).set j (some (.val (.exc nm fs)))).set i none)) else .bad) := q
      by_cases hm : nm ∈ cs ∧ i < e.length
      case neg => rw [if_neg hm] at q2; exact q2.elim
      rw [if_pos hm] at q2
      intro cc o G sm ⟨H2, sm9, ⟨C, hC, hns⟩, ho⟩
      subst hC
      refine ⟨true, TC nm hm.1 C hns, fun _ a na => ?_, fun z => nomatch z⟩
      obtain ⟨s0, kp, Z, rt, h1, h2, r⟩ := B
      have smn : Same G (upd G a (ExT (.ref C) o a)) := same_new na
      have sm2 : Same H (upd G a (ExT (.ref C) o a)) := sm.trans smn
      have rep : Rep X.K (fun b => H b = none) (upd G a (ExT (.ref C) o a)) (.exc nm fs) (.ref a) := by
        refine ⟨a, C, rfl, hns, ?_⟩
        rcases ho with ⟨rfl, ho⟩ | ⟨h0, dd, xs, rfl, hd, hr⟩
        · refine .inl ⟨rfl, ?_⟩
          rcases ho with rfl | ⟨dd, gs, rfl, hd⟩
          · exact .inl upd_same
          · exact .inr ⟨dd, gs, upd_same, smn _ _ hd⟩
        · exact .inr ⟨dd, xs, h0, upd_same, smn _ _ hd, ((RepL.tok (le_no _) _ _ hr).same smn).mono fun b z => sm9.free z⟩
      have il : i < σ.length := by rw [← r.len]; exact hm.2
      refine ⟨.ref a, List.getElem?_set_self il, ?_⟩
      obtain ⟨Z', rt', z1, z2, r'⟩ := (r.setNone i (some (.ref a))).put sm2 (l := []) (v := .val (.exc nm fs)) (x := .ref a) (rep.mono fun b z => .inr (.inl z)) j (fun _ z => nomatch z)
      rw [show keep [] (S.val (.exc nm fs)).flat (e.set i none) = e.set i none from keep_nil _ _] at r'
      refine q2 _ _ ⟨s0.trans sm2, kp.trans (same_kp sm2), Z', rt', up1 h1 z1, up2 h2 z2, r'.setNone i none⟩
    | _ => exact q.elim
end
end Tg

/-! Tg, part 18: dicts of slots. -/
namespace Tg
open PySem PySem.Spec PyProof.Rows L2

def lookI (kvs : List (List Int × D)) (k : List Int) : Option D := (kvs.find? fun p => decide (p.1 = k)).map (·.2)
def putI (kvs : List (List Int × D)) (k : List Int) (d : D) : List (List Int × D) := if (kvs.any fun p => decide (p.1 = k)) = true then kvs.map (fun p => if p.1 = k then (p.1, d) else p) else kvs ++ [(k, d)]
def keyOf : Nat → D → Option (List Int)
  | 0, .int i => some [i]
  | 1, .tup ds => D.ints ds
  | _ + 2, .str s => some (s.map Int.ofNat)
  | _, _ => none
theorem keyOf_ok {t : Nat} {d : D} {k : List Int} (h : keyOf t d = some k) : okK t k = true := by
  match t with
  | 0 => cases d <;> first | (cases h; done) | (cases h; rfl)
  | 1 => rfl
  | n + 2 =>
    cases d <;> first | (cases h; done) | skip
    cases h
    show List.all _ _ = true
    rw [List.all_eq_true]
    intro i hi
    obtain ⟨j, _, rfl⟩ := List.mem_map.mp hi
    exact decide_eq_true (Int.natCast_nonneg j)
/-- the keys' places in the heap -/
def Emb {κ : Type} (f : List Int → κ) (t : Nat) : Prop := ∀ k k', okK t k = true → okK t k' = true → f k = f k' → k = k'
theorem emb_K : Emb fK 0 := fun k k' h h' e => by
  match k, h with
  | [a], _ => match k', h' with
    | [b], _ => injection e with e; rw [show a = b from e]
theorem emb_S {n : Nat} : Emb fS (n + 2) := fun k k' h h' e => by
  have e2 : k.map Int.toNat = k'.map Int.toNat := by
    unfold fS at e
    simpa using e
  have h : (k.all fun i => decide (0 ≤ i)) = true := h
  have h' : (k'.all fun i => decide (0 ≤ i)) = true := h'
  clear e
  induction k generalizing k' with
  | nil => cases k' with
    | nil => rfl
    | cons _ _ => cases e2
  | cons a k ih => cases k' with
    | nil => cases e2
    | cons b k' =>
      rw [List.map_cons, List.map_cons] at e2
      injection e2 with e3 e4
      rw [List.all_cons, Bool.and_eq_true, decide_eq_true_eq] at h h'
      rw [ih k' h.2 h'.2 e4 h.2 h'.2, show a = b by omega]
theorem emb_T : Emb fT 1 := fun k k' _ _ e => by
  have : ∀ (a b : List Int), a.map (Sum.inl : Int → Key) = b.map Sum.inl → a = b := by
    intro a
    induction a with
    | nil => intro b h; cases b with
      | nil => rfl
      | cons _ _ => cases h
    | cons x a ih => intro b h; cases b with
      | nil => cases h
      | cons y b =>
        rw [List.map_cons, List.map_cons] at h
        injection h with h1 h2
        injection h1 with h1
        rw [h1, ih b h2]
  exact this _ _ e
section
variable {κ : Type} [DecidableEq κ] {f : List Int → κ} {t : Nat} {K : PySem.W.Frag} {H : Hp}
theorem DR.length {T : Tkn} {kvs : List (List Int × D)} {ks : List (κ × V)} (h : DR f K H kvs ks) : ks.length = kvs.length := by
  induction h with
  | nil => rfl
  | cons _ _ _ ih => rw [List.length_cons, List.length_cons, ih]
theorem DR.look {T : Tkn} (E : Emb f t) {kvs : List (List Int × D)} {ks : List (κ × V)} (h : DR f K H kvs ks) (ok : ∀ p ∈ kvs, okK t p.1 = true) {k : List Int} (hk : okK t k = true) :
    (lookI kvs k = none ∧ valV ks (f k) = none) ∨ ∃ d y, lookI kvs k = some d ∧ valV ks (f k) = some y ∧ Rep K (fun _ => False) H d y ∧ d.flat = true := by
  induction h with
  | nil => exact .inl ⟨rfl, rfl⟩
  | @cons k0 d y r s h1 h2 h3 ih =>
    have ok0 := ok _ List.mem_cons_self
    by_cases e : k0 = k
    · subst e
      exact .inr ⟨d, y, by simp [lookI], valV_pos rfl, h1, h2⟩
    · have ne : ¬ f k0 = f k := fun z => e (E k0 k ok0 hk z)
      have e2 : lookI ((k0, d) :: r) k = lookI r k := by simp [lookI, List.find?_cons, e]
      rw [e2, valV_neg ne]
      exact ih fun p hp => ok p (List.mem_cons_of_mem _ hp)
theorem DR.any {T : Tkn} (E : Emb f t) {kvs : List (List Int × D)} {ks : List (κ × V)} (h : DR f K H kvs ks) (ok : ∀ p ∈ kvs, okK t p.1 = true) {k : List Int} (hk : okK t k = true) :
    (ks.any fun kv => decide (kv.1 = f k)) = kvs.any fun p => decide (p.1 = k) := by
  induction h with
  | nil => rfl
  | @cons k0 d y r s h1 h2 h3 ih =>
    have ok0 := ok _ List.mem_cons_self
    rw [List.any_cons, List.any_cons, ih fun p hp => ok p (List.mem_cons_of_mem _ hp)]
    congr 1
    rw [decide_eq_decide]
    exact ⟨fun z => E k0 k ok0 hk z, fun z => by show f k0 = f k; rw [show k0 = k from z]⟩
theorem DR.snoc {T : Tkn} {kvs : List (List Int × D)} {ks : List (κ × V)} (h : DR f K H kvs ks) {k : List Int} {d : D} {y : V} (h1 : Rep K (fun _ => False) H d y) (h2 : d.flat = true) : DR f K H (kvs ++ [(k, d)]) (ks ++ [(f k, y)]) := by
  induction h with
  | nil => exact .cons h1 h2 .nil
  | cons g1 g2 _ ih => exact .cons g1 g2 ih
theorem DR.upd {T : Tkn} (E : Emb f t) {kvs : List (List Int × D)} {ks : List (κ × V)} (h : DR f K H kvs ks) (ok : ∀ p ∈ kvs, okK t p.1 = true) {k : List Int} (hk : okK t k = true) {d : D} {y : V} (h1 : Rep K (fun _ => False) H d y) (h2 : d.flat = true) :
    DR f K H (kvs.map fun p => if p.1 = k then (p.1, d) else p) (ks.map fun kv => if kv.1 = f k then (kv.1, y) else kv) := by
  induction h with
  | nil => exact .nil
  | @cons k0 d0 y0 r s g1 g2 _ ih =>
    have ok0 := ok _ List.mem_cons_self
    have ih := ih fun p hp => ok p (List.mem_cons_of_mem _ hp)
    rw [List.map_cons, List.map_cons]
    by_cases e : k0 = k
    · subst e
      rw [if_pos rfl, if_pos rfl]
      exact .cons h1 h2 ih
    · rw [if_neg e, if_neg (fun z => e (E k0 k ok0 hk z))]
      exact .cons g1 g2 ih
theorem DR.put {T : Tkn} (E : Emb f t) {kvs : List (List Int × D)} {ks : List (κ × V)} (h : DR f K H kvs ks) (ok : ∀ p ∈ kvs, okK t p.1 = true) {k : List Int} (hk : okK t k = true) {d : D} {y : V} (h1 : Rep K (fun _ => False) H d y) (h2 : d.flat = true) :
    DR f K H (putI kvs k d) (putK ks (f k) y) := by
  unfold putI putK
  rw [h.any E ok hk]
  split
  · exact h.upd E ok hk h1 h2
  · exact h.snoc h1 h2
end
theorem putI_ok {t : Nat} {kvs : List (List Int × D)} (ok : ∀ p ∈ kvs, okK t p.1 = true) {k : List Int} (hk : okK t k = true) (d : D) : ∀ p ∈ putI kvs k d, okK t p.1 = true := by
  intro p hp
  unfold putI at hp
  split at hp
  · obtain ⟨q, hq, e⟩ := List.mem_map.mp hp
    have := ok q hq
    split at e <;> subst e <;> exact this
  · rcases List.mem_append.mp hp with hp | hp
    · exact ok p hp
    · rw [List.mem_singleton.mp hp]; exact hk
theorem putI_len (kvs : List (List Int × D)) (k : List Int) (d : D) : (putI kvs k d).length ≤ kvs.length + 1 := by
  unfold putI
  split <;> simp
theorem RepL.keys {T : Tkn} {K : PySem.W.Frag} {N : Addr → Prop} {H : Hp} {ns : List Int} {xs : List V} (h : RepL K N H (ns.map D.int) xs) : xs = (fT ns).map kV := by
  rw [h.ints]
  unfold fT
  rw [List.map_map]
  rfl
/-- a dict of a slot, asked at a key -/
theorem dob_get {T : Tkn} {K : PySem.W.Frag} {N : Addr → Prop} {H : Hp} {a : Addr} {t : Nat} {kvs : List (List Int × D)} {o : HO} (ho : H a = some o) (h : DOb0 K H t kvs o) {c : D} {x : V} {k : List Int} (hc : keyOf t c = some k) (r : Rep K N H c x) :
    (lookI kvs k = none ∧ DGet H a x none) ∨ ∃ d y, lookI kvs k = some d ∧ DGet H a x (some y) ∧ Rep K (fun _ => False) H d y ∧ d.flat = true := by
  have hk := keyOf_ok hc
  match t, h with
  | 0, h =>
    obtain ⟨ks, e, q⟩ := h.2
    subst e
    cases c <;> first | cases hc | skip
    rename_i i
    obtain rfl : x = .int i := r
    have g := DGet.k (k := fK [i]) ho
    rcases q.look emb_K h.1 hk with ⟨h1, h2⟩ | ⟨d, y, h1, h2, h3⟩
    · rw [h2] at g
      exact .inl ⟨h1, g⟩
    · rw [h2] at g
      exact .inr ⟨d, y, h1, g, h3⟩
  | 1, h =>
    obtain ⟨ks, e, q⟩ := h.2
    subst e
    cases c <;> first | cases hc | skip
    rename_i ds
    have hc : D.ints ds = some k := hc
    have := ints_some hc
    subst this
    obtain ⟨b, xs, rfl, hb, rr⟩ := r
    rw [rr.keys] at hb
    have g := DGet.t (k := fT k) ho hb
    rcases q.look emb_T h.1 hk with ⟨h1, h2⟩ | ⟨d, y, h1, h2, h3⟩
    · rw [h2] at g
      exact .inl ⟨h1, g⟩
    · rw [h2] at g
      exact .inr ⟨d, y, h1, g, h3⟩
  | n + 2, h =>
    obtain ⟨ks, e, q⟩ := h.2
    subst e
    cases c <;> first | cases hc | skip
    rename_i s
    obtain rfl : x = .str ⟨s.toArray⟩ := r
    have ek : (.inr ⟨s.toArray⟩ : Key) = fS (s.map Int.ofNat) := by
      unfold fS
      rw [List.map_map]
      have : (Int.toNat ∘ Int.ofNat) = (id : Nat → Nat) := by funext n; rfl
      rw [this, List.map_id]
    have g := DGet.k (k := (.inr ⟨s.toArray⟩ : Key)) ho
    rw [ek] at g
    rcases q.look emb_S h.1 hk with ⟨h1, h2⟩ | ⟨d, y, h1, h2, h3⟩
    · rw [h2] at g
      exact .inl ⟨h1, by rw [show kV (fS (s.map Int.ofNat)) = V.str ⟨s.toArray⟩ by rw [← ek]; rfl] at g; exact g⟩
    · rw [h2] at g
      exact .inr ⟨d, y, h1, by rw [show kV (fS (s.map Int.ofNat)) = V.str ⟨s.toArray⟩ by rw [← ek]; rfl] at g; exact g, h3⟩

def dctAt (e : En) (i : Nat) : Option (Nat × List (List Int × D)) := match e[i]? with
  | some (some (.dct t kvs)) => if t = 3 then none else some (t, kvs)
  | _ => none
theorem dctAt_ne {e : En} {i : Nat} {p : Nat × List (List Int × D)} (h : dctAt e i = some p) : p.1 ≠ 3 := by
  unfold dctAt at h
  split at h
  · split at h
    · cases h
    · rename_i n
      cases h
      exact n
  · cases h
theorem dctAt_some {e : En} {i : Nat} {p : Nat × List (List Int × D)} (h : dctAt e i = some p) : e[i]? = some (some (.dct p.1 p.2)) := by
  unfold dctAt at h
  split at h
  · rename_i t kvs hi
    split at h
    · cases h
    · cases h
      exact hi
  · cases h
/-- x[k], k in x, len(x) of a dict slot -/
def kDGet (t : Nat) (kvs : List (List Int × D)) (k : S) : R S := match keyOf t k.d with
  | some q => (match lookI kvs q with
    | some d => .ok (.val d)
    | none => .bad)
  | none => .bad
def eDGet (i : Nat) (n : Ex) : Ex := fun e => match dctAt e i with
  | some (t, kvs) => (n e).bind (kDGet t kvs)
  | _ => .bad
/-- x.get(k, v) -/
def kDGetD (t : Nat) (kvs : List (List Int × D)) (v : D) (k : S) : R S := match keyOf t k.d with
  | some q => .ok (.val ((lookI kvs q).getD v))
  | none => .bad
def kDIn (neg : Bool) (t : Nat) (kvs : List (List Int × D)) (k : S) : R S := match keyOf t k.d with
    | some q => .ok (.val (.bl (if neg then !(lookI kvs q).isSome else (lookI kvs q).isSome)))
    | none => .bad
def eDIn (neg : Bool) (i : Nat) (n : Ex) : Ex := fun e => match dctAt e i with
  | some (t, kvs) => (n e).bind (kDIn neg t kvs)
  | _ => .bad
def eDLen (i : Nat) : Ex := fun e => match dctAt e i with
  | some (_, kvs) => .ok (.val (.int kvs.length))
  | _ => .bad
/-- x = {}, x[k] = v -/
def sDNew (t : Nat) (i : Nat) : Sx := fun e => .ok (.nx (e.set i (some (.dct t []))))
def kDPut2 (t : Nat) (kvs : List (List Int × D)) (i : Nat) (e : En) (v k : S) : R Fl := match keyOf t k.d with
    | some q => if v.d.flat = true ∧ kvs.length ≤ 60000 then .ok (.nx (e.set i (some (.dct t (putI kvs q v.d))))) else .bad
    | none => .bad
def kDPut (t : Nat) (kvs : List (List Int × D)) (i : Nat) (n : Ex) (e : En) (v : S) : R Fl := (n e).bind (kDPut2 t kvs i e v)
def sDPut (i : Nat) (a n : Ex) : Sx := fun e => match dctAt e i with
  | some (t, kvs) => (a e).bind (kDPut t kvs i n e)
  | _ => .bad

section
variable {X : Cx} {W : Wi} {H0 : Hp} {Z0 : Addr → Prop} {lk : List Nat} {a b : Expr} {m n : Ex} {l k : List Nat} {pos p2 apos epos : Pos} {x : Str}
theorem get_sim {i : Nat} (σ : L2.St) (H : Hp) (Q : VK) (q : tE X.K W (eDGet i n) [] σ H Q) : L2.tDGet (tVar i) (tE X.K W n k) σ H Q := by
  obtain ⟨T, B, Z, rt, e, r, q⟩ := q
  unfold eDGet at q
  cases hp : dctAt e i with
  | none => rw [hp] at q; exact q.elim
  | some p =>
  obtain ⟨t, kvs⟩ := p
  have hi := dctAt_some hp
  have hne : t ≠ 3 := dctAt_ne hp
  simp only [hp] at q
  obtain ⟨h1, h2, h3, o, h4, h5⟩ := r.dct i t kvs hi
  replace h5 := h5.old hne
  refine ⟨_, h1, ?_⟩
  refine tE_go r (fun d hd => by rw [hd] at q; exact q) (fun hd => by rw [hd] at q; exact q) fun s y H1 hs sm r1 rs => ?_
  rw [hs, R.bind_ok] at q
  unfold kDGet at q
  have rd := rs.d (N := NZ W.g Z e rt k H) fun a z => .inr (.inl z)
  cases hk : keyOf t s.d with
  | none => simp only [hk] at q
  | some g =>
    simp only [hk] at q
    rcases dob_get (sm _ _ h4) (h5.still (Same.still sm)) hk rd with ⟨g1, _⟩ | ⟨d, v, g1, g2, g3, g4⟩
    · simp only [g1] at q
    · simp only [g1] at q
      exact ⟨rt i, v, rfl, g2, q v H1 sm (Rep.flat (Still.refl _) d v g4 g3)⟩
theorem x_dget (hu : X.A.units + 65 < cLine) (i : Nat) (hk : SE X W b n k) (hN : X.N[i]? = some x := by rfl) (hv : Vis X.env.scope x := by first | exact Or.inl rfl | exact Or.inr (Or.inl rfl) | exact Or.inr (Or.inr rfl)) (hd : (x == ("__debug__" : Str)) = false := by decide) (hcd : (x == ("__classdict__" : Str)) = false := by decide) (hs : NoSl b := by exact fun _ _ => rfl) :
    SE X W (.Subscript (.Name x p2) b pos) (eDGet i n) [] := PE.imp (pe_dget (by omega) (pe_var hN hv hd hcd) hk hs) get_sim
theorem in_sim {i : Nat} (neg : Bool) (σ : L2.St) (H : Hp) (Q : VK) (q : tE X.K W (eDIn neg i n) [] σ H Q) : tE X.K W n k σ H fun y H1 => tVar i σ H1 fun x H2 => ∃ a o, x = .ref a ∧ DGet H2 a y o ∧ Q (.bl (if neg then !o.isSome else o.isSome)) H2 := by
  obtain ⟨T, B, Z, rt, e, r, q⟩ := q
  unfold eDIn at q
  cases hp : dctAt e i with
  | none => rw [hp] at q; exact q.elim
  | some p =>
  obtain ⟨t, kvs⟩ := p
  have hi := dctAt_some hp
  have hne : t ≠ 3 := dctAt_ne hp
  simp only [hp] at q
  obtain ⟨h1, h2, h3, o, h4, h5⟩ := r.dct i t kvs hi
  replace h5 := h5.old hne
  refine tE_go r (fun d hd => by rw [hd] at q; exact q) (fun hd => by rw [hd] at q; exact q) fun s y H1 hs sm r1 rs => ?_
  refine ⟨_, h1, ?_⟩
  rw [hs, R.bind_ok] at q
  unfold kDIn at q
  have rd := rs.d (N := NZ W.g Z e rt k H) fun a z => .inr (.inl z)
  cases hk : keyOf t s.d with
  | none => simp only [hk] at q
  | some g =>
    simp only [hk] at q
    rcases dob_get (sm _ _ h4) (h5.still (Same.still sm)) hk rd with ⟨g1, g2⟩ | ⟨d, v, g1, g2, g3, g4⟩
    · simp only [g1] at q
      exact ⟨rt i, _, rfl, g2, q _ H1 sm rfl⟩
    · simp only [g1] at q
      exact ⟨rt i, _, rfl, g2, q _ H1 sm rfl⟩
theorem fl_din {neg : Bool} {i : Nat} : ∀ e s, eDIn neg i n e = .ok s → ∃ d, s = .val d ∧ d.flat = true := fun e s h => by
  unfold eDIn at h
  cases hp : dctAt e i with
  | none => rw [hp] at h; cases h
  | some p =>
  simp only [hp] at h
  cases hn : n e with
  | ok g =>
    rw [hn, R.bind_ok] at h
    unfold kDIn at h
    split at h
    · cases h; exact ⟨_, rfl, rfl⟩
    · cases h
  | ex d => rw [hn] at h; cases h
  | bad => rw [hn] at h; cases h
theorem x_din (hu : X.A.units + 65 < cLine) (i : Nat) (hk : SE X W b n k) (hN : X.N[i]? = some x := by rfl) (hv : Vis X.env.scope x := by first | exact Or.inl rfl | exact Or.inr (Or.inl rfl) | exact Or.inr (Or.inr rfl)) (hd : (x == ("__debug__" : Str)) = false := by decide) (hcd : (x == ("__classdict__" : Str)) = false := by decide) :
    SE X W (.Compare b [.In] [.Name x p2] pos) (eDIn false i n) [] := PE.imp (pe_cmp (pc_din (by omega) hk (pe_var hN hv hd hcd))) (in_sim false)
theorem x_dnotIn (hu : X.A.units + 65 < cLine) (i : Nat) (hk : SE X W b n k) (hN : X.N[i]? = some x := by rfl) (hv : Vis X.env.scope x := by first | exact Or.inl rfl | exact Or.inr (Or.inl rfl) | exact Or.inr (Or.inr rfl)) (hd : (x == ("__debug__" : Str)) = false := by decide) (hcd : (x == ("__classdict__" : Str)) = false := by decide) :
    SE X W (.Compare b [.NotIn] [.Name x p2] pos) (eDIn true i n) [] := PE.imp (pe_cmp (pc_dnotin (by omega) hk (pe_var hN hv hd hcd))) (in_sim true)
theorem t_din (hu : X.A.units + 65 < cLine) (i : Nat) (hk : SE X W b n k) (hN : X.N[i]? = some x := by rfl) (hv : Vis X.env.scope x := by first | exact Or.inl rfl | exact Or.inr (Or.inl rfl) | exact Or.inr (Or.inr rfl)) (hd : (x == ("__debug__" : Str)) = false := by decide) (hcd : (x == ("__classdict__" : Str)) = false := by decide) :
    ST X W (.Compare b [.In] [.Name x p2] pos) (tVal (eDIn false i n)) := PT.imp (pt_cmp (pc_din (by omega) hk (pe_var hN hv hd hcd))) fun σ H Q q => in_sim false σ H _ (tVal_tE q)
theorem t_dnotIn (hu : X.A.units + 65 < cLine) (i : Nat) (hk : SE X W b n k) (hN : X.N[i]? = some x := by rfl) (hv : Vis X.env.scope x := by first | exact Or.inl rfl | exact Or.inr (Or.inl rfl) | exact Or.inr (Or.inr rfl)) (hd : (x == ("__debug__" : Str)) = false := by decide) (hcd : (x == ("__classdict__" : Str)) = false := by decide) :
    ST X W (.Compare b [.NotIn] [.Name x p2] pos) (tVal (eDIn true i n)) := PT.imp (pt_cmp (pc_dnotin (by omega) hk (pe_var hN hv hd hcd))) fun σ H Q q => in_sim true σ H _ (tVal_tE q)
theorem x_dlen (i : Nat) (hm : X.mg "len" = none) (hN : X.N[i]? = some x := by rfl) (hv : Vis X.env.scope x := by first | exact Or.inl rfl | exact Or.inr (Or.inl rfl) | exact Or.inr (Or.inr rfl)) (hd : (x == ("__debug__" : Str)) = false := by decide) (hcd : (x == ("__classdict__" : Str)) = false := by decide) (hg : Gl X "len" := by rfl)
    (he : starEach [.Name x p2] X.env = (false, eval (.Name x p2) X.env) :: starEach [] X.env := by rfl) (hpl : (backTo pos (starEach ([] : List Expr) X.env)).any (·.1) = false := by rfl) :
    SE X W (.Call (.Name "len" apos) [.Name x p2] [] pos) (eDLen i) [] := by
  refine PE.imp (pe_callB (call_lenD.or call_len_dT) hg hm boot_len (pa_cons (pe_var hN hv hd hcd) pa_nil he) (by decide) (by decide) he hpl) fun σ H Q ⟨T, B, Z, rt, e, r, q⟩ => ?_
  unfold eDLen at q
  cases hp : dctAt e i with
  | none => rw [hp] at q; exact q.elim
  | some p =>
  obtain ⟨t, kvs⟩ := p
  have hi := dctAt_some hp
  have hne : t ≠ 3 := dctAt_ne hp
  simp only [hp] at q
  obtain ⟨h1, h2, h3, o, h4, h5⟩ := r.dct i t kvs hi
  replace h5 := h5.old hne
  refine ⟨_, h1, ?_⟩
  match t, h5 with
  | 0, h5 =>
    obtain ⟨ks, e, q2⟩ := h5.2
    subst e
    refine .inl ⟨rt i, ks, rfl, h4, ?_⟩
    rw [q2.length]
    exact q _ H (Same.refl H) rfl
  | 1, h5 =>
    obtain ⟨ks, e, q2⟩ := h5.2
    subst e
    refine .inr ⟨rt i, ks, rfl, h4, ?_⟩
    rw [q2.length]
    exact q _ H (Same.refl H) rfl
  | n + 2, h5 =>
    obtain ⟨ks, e, q2⟩ := h5.2
    subst e
    refine .inl ⟨rt i, ks, rfl, h4, ?_⟩
    rw [q2.length]
    exact q _ H (Same.refl H) rfl
theorem s_dnew (i : Nat) (t : Nat) {p : Pos} (ht : t ≠ 3 := by decide) (hN : X.N.Nodup) (hi : X.N[i]? = some x := by rfl) (hx : Loc X.env.scope x := by first | exact Or.inl rfl | exact Or.inr rfl) (hs : swapsWith (.Dict [] [] p2) (some (.Name x p)) pos.line X.env = pure false := by rfl) (hf : X.fn x = true ∨ X.env.scope.names.lookup x = some .local := by first | exact .inl rfl | exact .inr rfl | assumption) :
    SS X W H0 Z0 lk (.Assign [.Name x p] (.Dict [] [] p2) pos) (sDNew t i) := by
  have main : ∀ (o : HO), (∀ {T : Tkn} H, DOb0 X.K H t [] o) → ∀ (D : Ends) (σ : L2.St) (H : Hp), tS X.K W H0 Z0 lk (sDNew t i) D σ H → tAsg (fun _ H Q => ∀ p, H p = none → Q (.ref p) (upd H p o)) (L2.gName i) D σ H := by
    rintro o ho D σ H ⟨T, Zl, Hb, e, ⟨s0, kp, Z, rt, h1, h2, r⟩, q⟩ p hp
    have sm : Same H (upd H p o) := same_new hp
    have r1 := r.ext sm
    have r2 := r1.setRoot i (s := .dct t []) trivial (q := p) (r.yg p hp) (fun g z => r.al g p z hp) (fun ds e => nomatch e) (fun t' kvs e => by cases e; exact ⟨o, upd_same, .of ht (ho _)⟩) (fun j u _ k hu z => (r.live k hu).1 (by rw [z]; exact hp)) (fun k z => (r.tks k p z).1 hp)
    exact q _ _ (.new s0 kp sm h1 h2 r2)
  match t, main with
  | 0, main => exact PS.imp (ps_set hN hi hx pe_dnewK hs hf) (main (.dK []) fun H => ⟨fun p hp => (List.not_mem_nil hp).elim, ⟨[], rfl, .nil⟩⟩)
  | 1, main => exact PS.imp (ps_set hN hi hx pe_dnewT hs hf) (main (.dT []) fun H => ⟨fun p hp => (List.not_mem_nil hp).elim, ⟨[], rfl, .nil⟩⟩)
  | n + 2, main => exact PS.imp (ps_set hN hi hx pe_dnewK hs hf) (main (.dK []) fun H => ⟨fun p hp => (List.not_mem_nil hp).elim, ⟨[], rfl, .nil⟩⟩)
theorem still_d {H : Hp} {a : Addr} {o o' : HO} (ha : H a = some o) (h1 : ∀ xs, o ≠ .tup xs) (h2 : ¬ Fx o) : Still H (upd H a o') := ⟨fun b zs h => by
  rw [upd_ne (fun w => by subst w; rw [ha] at h; cases h; exact h1 _ rfl)]
  exact h, fun b u f h => by
    rw [upd_ne (fun w => by subst w; rw [ha] at h; cases h; exact h2 f)]
    exact h⟩
theorem s_dput (hu : X.A.units + 65 < cLine) (i : Nat) {tpos : Pos} (ha : SE X W a m l) (hk : SE X W b n k) (hN : X.N[i]? = some x := by rfl) (hv : Vis X.env.scope x := by first | exact Or.inl rfl | exact Or.inr (Or.inl rfl) | exact Or.inr (Or.inr rfl)) (hd : (x == ("__debug__" : Str)) = false := by decide) (hcd : (x == ("__classdict__" : Str)) = false := by decide)
    (hs : swapsWith a (some (.Subscript (.Name x p2) b tpos)) pos.line X.env = pure false := by rfl) :
    SS X W H0 Z0 lk (.Assign [.Subscript (.Name x p2) b tpos] a pos) (sDPut i m n) := by
  refine PS.imp (ps_dput (by omega) (pe_var hN hv hd hcd) hk ha hs) fun D σ H ⟨T, Zl, Hb, e, ⟨s0, kp, Z, rt, h1, h2, r0⟩, q⟩ => ?_
  unfold sDPut at q
  cases hp : dctAt e i with
  | none => rw [hp] at q; exact q.elim
  | some p =>
  obtain ⟨t, kvs⟩ := p
  have hi := dctAt_some hp
  have hne : t ≠ 3 := dctAt_ne hp
  simp only [hp] at q
  refine tE_go r0 (fun d hd c o H' sm => by rw [hd] at q; exact (fun z9 => q c o σ H' (s0.trans sm) (z9.mo s0))) (fun hd => by rw [hd] at q; exact q) fun s v H1 hs1 sm1 r1 rs1 => ?_
  rw [hs1, R.bind_ok] at q
  unfold kDPut at q
  obtain ⟨j1, _⟩ := r0.dct i t kvs hi
  refine ⟨_, j1, ?_⟩
  refine tE_go r1 (fun d hd c o H' sm => by rw [hd] at q; exact (fun z9 => q c o σ H' ((s0.trans sm1).trans sm) (z9.mo (s0.trans sm1)))) (fun hd => by rw [hd] at q; exact q) fun s2 y H2 hs2 sm2 r2 rs2 => ?_
  rw [hs2, R.bind_ok] at q
  unfold kDPut2 at q
  cases hkey : keyOf t s2.d with
  | none => simp only [hkey] at q; exact q.elim
  | some g =>
    simp only [hkey] at q
    split at q
    case isFalse => exact q.elim
    rename_i hf
    obtain ⟨j1, j2, j3, o, j4, j5⟩ := r2.dct i t kvs hi
    replace j5 := j5.old hne
    have hgk := keyOf_ok hkey
    have rv : Rep X.K (fun _ => False) H2 s.d v := Rep.flat (Still.refl _) s.d v hf.1 ((rs1.d (N := NZ W.g Z e rt l H) fun a z => .inr (.inl z)).same sm2)
    have rk := rs2.d (N := NZ W.g Z e rt k H1) fun a z => .inr (.inl z)
    have fin : ∀ o', DOb0 X.K H2 t (putI kvs g s.d) o' → (∀ xs, o ≠ .tup xs) → ¬ Fx o → D.nx σ (upd H2 (rt i) o') := fun o' ho n1 n2 => by
      have st := still_d (o' := o') j4 n1 n2
      have rw' := r2.writeRoot hi trivial (s := .dct t (putI kvs g s.d)) trivial st (fun ds e => nomatch e) (fun t' kvs' e => by cases e; exact .of hne ho) j1
      exact q σ _ (Body.wrR s0 kp (sm1.trans sm2) h1 h2 r2 hi trivial st rw')
    have okp := putI_ok j5.1 hgk s.d
    match t, j5, hkey, okp, fin with
    | 0, j5, hkey, okp, fin =>
      obtain ⟨ks, e2, q2⟩ := j5.2
      subst e2
      have hdp := q2.put emb_K j5.1 hgk rv hf.1
      cases hc : s2.d with
      | int i0 =>
        rw [hc] at hkey rk
        cases hkey
        obtain rfl : y = .int i0 := rk
        refine ⟨rt i, _, rfl, DPut.k (k := fK [i0]) (v := v) j4 (by rw [q2.length]; exact Nat.lt_of_le_of_lt hf.2 (by decide)), fin _ ⟨okp, ⟨_, rfl, hdp⟩⟩ (fun xs h => nomatch h) fun h => ?_⟩
        exact absurd h (by first | exact nfx_K | exact nfx_T)
      | _ => rw [hc] at hkey; cases hkey
    | 1, j5, hkey, okp, fin =>
      obtain ⟨ks, e2, q2⟩ := j5.2
      subst e2
      have hdp := q2.put emb_T j5.1 hgk rv hf.1
      cases hc : s2.d with
      | tup ds =>
        rw [hc] at hkey rk
        have hkey : Tg.D.ints ds = some g := hkey
        have := ints_some hkey
        subst this
        obtain ⟨b, xs, rfl, hb, rr⟩ := rk
        rw [rr.keys] at hb
        refine ⟨rt i, _, rfl, DPut.t (k := fT g) (v := v) j4 hb (by rw [q2.length]; exact Nat.lt_of_le_of_lt hf.2 (by decide)), fin _ ⟨okp, ⟨_, rfl, hdp⟩⟩ (fun xs h => nomatch h) fun h => ?_⟩
        exact absurd h (by first | exact nfx_K | exact nfx_T)
      | _ => rw [hc] at hkey; cases hkey
    | n + 2, j5, hkey, okp, fin =>
      cases hc : s2.d with
      | str z =>
        rw [hc] at hkey rk
        cases hkey
        obtain ⟨ks, e2, q2⟩ := j5.2
        subst e2
        have hdp := q2.put emb_S j5.1 hgk rv hf.1
        obtain rfl : y = .str ⟨z.toArray⟩ := rk
        have ek : (.inr ⟨z.toArray⟩ : Key) = fS (z.map Int.ofNat) := by
          unfold fS
          rw [List.map_map]
          have : (Int.toNat ∘ Int.ofNat) = (id : Nat → Nat) := by funext n; rfl
          rw [this, List.map_id]
        refine ⟨rt i, _, rfl, DPut.k (k := (.inr ⟨z.toArray⟩ : Key)) (v := v) j4 (by rw [q2.length]; exact Nat.lt_of_le_of_lt hf.2 (by decide)), fin _ ⟨okp, ⟨_, by rw [ek], hdp⟩⟩ (fun xs h => nomatch h) fun h => ?_⟩
        exact absurd h (by first | exact nfx_K | exact nfx_T)
      | _ => rw [hc] at hkey; cases hkey
end
end Tg

/-! Tg, part 19: zip of two things of any kinds. -/
namespace Tg
open PySem PySem.Spec PyProof.Rows L2

inductive Src where
  | L (a : Addr) | T (a : Addr) | X (z : Str)
def Src.v : Src → V
  | .L a => .ref a
  | .T a => .ref a
  | .X z => .str z
def Src.has (K : PySem.W.Frag) (H : Hp) : Src → List V → Prop
  | .L a, xs => SqL K H a xs
  | .T a, xs => SqT K H a xs
  | .X z, xs => xs = z.cps.toList.map fun c => V.str ⟨#[c]⟩
/-- the iterator over it, at its place -/
def Src.st (it : Addr) : Src → Nat → Heap → Prop
  | .L a, i, h => h.IsListIter it a i
  | .T a, i, h => h.IsTupleIter it a i
  | .X z, i, h => ∃ t, h.IsStrIter it (strIterType z) z t i
/-- the iterator is no part of what it walks -/
def Src.off (it : Addr) : Src → Prop
  | .L a => a ≠ it
  | .T a => a ≠ it
  | .X _ => True
def Src.no (x : Addr) : Src → Prop
  | .L a => x ≠ a
  | .T a => x ≠ a
  | .X _ => True
theorem Src.st_get {it : Addr} {S : Src} {i : Nat} {h : Heap} (q : S.st it i h) : ∃ o, h.get? it = some o ∧ ∀ v, o.data ≠ .cell v := by
  cases S with
  | L a => obtain ⟨o, e, _, d⟩ := q; exact ⟨o, e, fun v z => by rw [d] at z; cases z⟩
  | T a => obtain ⟨o, e, _, d⟩ := q; exact ⟨o, e, fun v z => by rw [d] at z; cases z⟩
  | X z => obtain ⟨t, o, e, _, d⟩ := q; exact ⟨o, e, fun v z => by rw [d] at z; cases z⟩
theorem Src.st_keep {it : Addr} {S : Src} {i : Nat} {h h' : Heap} (q : S.st it i h) (k : ∀ o, h.get? it = some o → h'.get? it = some o) : S.st it i h' := by
  cases S with
  | L a => exact q.at fun o e => k o e
  | T a => exact q.at fun o e => k o e
  | X z => obtain ⟨t, o, e, r⟩ := q; exact ⟨t, o, k o e, r⟩
/-- it draws the things that its source has -/
theorem Src.draws {X : Cx} {pins : List (Addr × Obj)} {σ : L2.St} {H : Hp} {s : Shared} (I : Inv X pins σ H s) (hc : X.calm = true) {it : Addr} {S : Src} {xs : List V} (hx : S.has X.K H xs) (ho : S.off it) {i : Nat} (q : S.st it i s.heap) :
    ∃ (fp : List Addr) (P : Nat → Value → Prop) (StF : Nat → Heap → Prop), Draws X.prog X.w X.A.in1 it fp xs.length P StF ∧ StF i s.heap ∧ (∀ j h, StF j h → S.st it j h) ∧ (∀ j u, P j u → ∃ x, xs[j]? = some x ∧ RelV x u) ∧ it ∈ fp ∧ ∀ y, y ∈ fp → y = it ∨ ¬ S.no y := by
  have hh : X.A.in1.handled = none := I.ok.hd hc
  cases S with
  | L a =>
    obtain ⟨its, rv, p, _⟩ := I.list hx
    have D := Draws.list (prog := X.prog) (w := X.w) hh it a ho its.toArray
    rw [show its.toArray.size = xs.length by simp [rv.length]] at D
    refine ⟨[it, a], _, _, D, ⟨q, p.isList⟩, fun j h z => z.1, fun j u z => ?_, by simp, fun y hy => ?_⟩
    · have z : its.toArray[j]? = some u := z
      have z : its[j]? = some u := by simpa using z
      have hj : j < xs.length := by rw [rv.length]; exact (List.getElem?_eq_some_iff.mp z).1
      obtain ⟨u2, h1, h2⟩ := rv.get (List.getElem?_eq_getElem hj)
      rw [z] at h1
      cases h1
      exact ⟨_, List.getElem?_eq_getElem hj, h2⟩
    · have : y = it ∨ y = a := by simpa using hy
      exact this.imp id fun e z => z e
  | T a =>
    obtain ⟨its, rv, p, _⟩ := I.tuple hx
    have D := Draws.tuple (prog := X.prog) (w := X.w) hh it a ho its.toArray
    rw [show its.toArray.size = xs.length by simp [rv.length]] at D
    refine ⟨[it, a], _, _, D, ⟨q, p⟩, fun j h z => z.1, fun j u z => ?_, by simp, fun y hy => ?_⟩
    · have z : its.toArray[j]? = some u := z
      have z : its[j]? = some u := by simpa using z
      have hj : j < xs.length := by rw [rv.length]; exact (List.getElem?_eq_some_iff.mp z).1
      obtain ⟨u2, h1, h2⟩ := rv.get (List.getElem?_eq_getElem hj)
      rw [z] at h1
      cases h1
      exact ⟨_, List.getElem?_eq_getElem hj, h2⟩
    · have : y = it ∨ y = a := by simpa using hy
      exact this.imp id fun e z => z e
  | X z =>
    obtain ⟨t, q⟩ := q
    have hx : xs = z.cps.toList.map fun c => V.str ⟨#[c]⟩ := hx
    subst hx
    have D := Draws.text (prog := X.prog) (w := X.w) hh it z t
    rw [show z.cps.size = (z.cps.toList.map fun c => V.str ⟨#[c]⟩).length by simp] at D
    refine ⟨[it], _, _, D, q, fun j h k => ⟨t, k⟩, fun j u k => ?_, by simp, fun y hy => .inl (by simpa using hy)⟩
    obtain ⟨c, tk, h1, rfl⟩ := k
    refine ⟨.str ⟨#[c]⟩, ?_, tk, rfl⟩
    rw [List.getElem?_map]
    have : z.cps.toList[j]? = some c := by simpa using h1
    rw [this]
    rfl
theorem Src.has_inj {X : Cx} {pins : List (Addr × Obj)} {σ : L2.St} {H : Hp} {s : Shared} (I : Inv X pins σ H s) {S : Src} {xs ys : List V} (h : S.has X.K H xs) (h' : S.has X.K H ys) : xs = ys := by
  cases S with
  | L a => exact I.list_inj h h'
  | T a => exact I.tuple_inj h h'
  | X z => exact (show xs = _ from h).trans (show ys = _ from h').symm
/-- the two of them, the things in new pairs -/
def ItzM (K : PySem.W.Frag) (S1 S2 : Src) : It :=
  ⟨fun i H => ∃ (xs ys : List V) (x y : V), S1.has K H xs ∧ S2.has K H ys ∧ xs[i]? = some x ∧ ys[i]? = some y,
    fun i H v H' => ∃ T x y, v = .ref T ∧ H T = none ∧ H' = upd H T (.tup [x, y]) ∧ (∀ xs, S1.has K H xs → xs[i]? = some x) ∧ ∀ ys, S2.has K H ys → ys[i]? = some y,
    fun i H => ∃ xs ys : List V, S1.has K H xs ∧ S2.has K H ys ∧ i ≤ xs.length ∧ i ≤ ys.length ∧ (xs.length = i ∨ ys.length = i)⟩
structure Apart (z TI TO i1 i2 : Addr) (S1 S2 : Src) : Prop where
  TIz : TI ≠ z
  TOz : TO ≠ z
  TITO : TI ≠ TO
  TIi1 : TI ≠ i1
  TIi2 : TI ≠ i2
  zi1 : z ≠ i1
  zi2 : z ≠ i2
  Ti1 : TO ≠ i1
  Ti2 : TO ≠ i2
  i12 : i1 ≠ i2
  off1 : S1.off i1
  off2 : S2.off i2
  z1 : S1.no z
  z2 : S2.no z
  T1 : S1.no TO
  T2 : S2.no TO
  i1' : S2.no i1
  i2' : S1.no i2
theorem turn_zipM {P : Program} {w : World} {K : PySem.W.Frag} {elts : List Expr} {kk : Nat} {tpos : Pos} {S1 S2 : Src} {z TI TO i1 i2 : Addr} (D : Apart z TI TO i1 i2 S1 S2) :
    Turn P w K (.Tuple elts kk tpos) (ItzM K S1 S2) [z, TI, TO, i1, i2] z (fun i h => IsZip h z TI TO .none ∧ IsPair h TI (.ref i1) (.ref i2) ∧ (∃ x y, IsPair h TO x y) ∧ S1.st i1 i h ∧ S2.st i2 i h) where
  mem := by simp
  obj := fun i h st c hc => by
    obtain ⟨hz, hTI, ⟨x, y, hTO⟩, q1, q2⟩ := st
    have e' : c = z ∨ c = TI ∨ c = TO ∨ c = i1 ∨ c = i2 := by simpa using hc
    rcases e' with q | q | q | q | q
    · rw [q]; exact ⟨_, hz, fun v q => nomatch q⟩
    · rw [q]; exact ⟨_, hTI, fun v q => nomatch q⟩
    · rw [q]; exact ⟨_, hTO, fun v q => nomatch q⟩
    · rw [q]; exact Src.st_get q1
    · rw [q]; exact Src.st_get q2
  keep := fun i h h' st k => by
    obtain ⟨hz, hTI, ⟨x, y, hTO⟩, h1, h2⟩ := st
    exact ⟨k z (by simp) _ hz, k TI (by simp) _ hTI, ⟨x, y, k TO (by simp) _ hTO⟩, Src.st_keep h1 fun o q => k i1 (by simp) o q, Src.st_keep h2 fun o q => k i2 (by simp) o q⟩
  item := by
    intro X hP hw hK hc i pins s σ H E I hf st hg
    subst hP hw hK
    obtain ⟨hz, hTI, ⟨x0, y0, hTO⟩, h1, h2⟩ := st
    obtain ⟨xs, ys, x, y, hqx, hqy, hx, hy⟩ := hg
    obtain ⟨fp1, P1, F1, D1, g1, b1, c1, m1, f1⟩ := Src.draws I hc hqx D.off1 h1
    obtain ⟨fp2, P2, F2, D2, g2, b2, c2, m2, f2⟩ := Src.draws I hc hqy D.off2 h2
    have sep : ZipSep2 z TI TO i1 i2 fp1 fp2 := ⟨D.TIz, D.TOz, D.TITO, D.TIi1, m1, fun q => (f1 z q).elim D.zi1 fun r => r D.z1, fun q => (f1 TO q).elim D.Ti1 fun r => r D.T1, D.TIi2, m2, fun q => (f2 z q).elim D.zi2 fun r => r D.z2, fun q => (f2 TO q).elim D.Ti2 fun r => r D.T2, fun q => (f2 i1 q).elim D.i12 fun r => r D.i1', fun q => (f1 i2 q).elim D.i12.symm fun r => r D.i2'⟩
    have hlx := (List.getElem?_eq_some_iff.mp hx).1
    have hly := (List.getElem?_eq_some_iff.mp hy).1
    have hzl : z < s.heap.objs.size := Heap.lt_size hz
    refine wpAny_pyNext_zipD2_item sep D1 D2 hz hTI hTO g1 g2 hlx hly fun u u2 h' tk p1 p2 z' TO' h1' h2' hT hsz hk => ?_
    obtain ⟨x', ex, ru⟩ := c1 i u p1
    obtain ⟨y', ey, ru2⟩ := c2 i u2 p2
    rw [hx] at ex
    rw [hy] at ey
    cases ex
    cases ey
    refine ⟨_, rfl, wpAny_letOwnedTupleGo_zip (s := { s with heap := h', toks := tk }) z' fun h'' z'' sb => ?_⟩
    have hT2 : h''.get? s.heap.objs.size = some { cls := .type "tuple", data := .seq #[u, u2] } := (sb.2 _ (Nat.ne_of_gt hzl)).trans hT
    have new : ObjOk X.prog X.w (upd H s.heap.objs.size (.tup [x, y])) h'' s.heap.objs.size (.tup [x, y]) :=
      ⟨by show 2 ≤ sizeLine; decide, [u, u2], .cons ru (.cons ru2 .nil), ⟨_, hT2, rfl, _, rfl⟩⟩
    have I1 : Inv X pins σ (upd H s.heap.objs.size (.tup [x, y])) { s with heap := h'', toks := tk } :=
      I.turnedNew (t' := tk) (ch := [z, TI, TO, i1, i2]) (fun c o hb q => (sb.2 c (fun q' => hb (by simp [q']))).trans (hk c o (fun q' => hb (by simp [q'])) (fun q' => hb (by simp [q'])) (fun q' => hb (by simp [q'])) (fun q' => hb (by simp [q'])) q)) hf (Nat.le_refl _) new
    refine ⟨.ref s.heap.objs.size, _, I1, rfl, ⟨_, x, y, rfl, I.hok.fresh (Nat.le_refl _), rfl, fun l hl => by rw [Src.has_inj I hl hqx]; exact hx, fun l hl => by rw [Src.has_inj I hl hqy]; exact hy⟩, ⟨z'', ?_, ⟨u, u2, ?_⟩, ?_, ?_⟩, fun c hcm => ?_⟩
    · exact (sb.2 _ D.TIz).trans (hk _ _ D.TIz D.TITO D.TIi1 D.TIi2 hTI)
    · exact (sb.2 _ D.TOz).trans TO'
    · exact Src.st_keep (b1 _ _ h1') fun o q => (sb.2 _ D.zi1.symm).trans q
    · exact Src.st_keep (b2 _ _ h2') fun o q => (sb.2 _ D.zi2.symm).trans q
    · have hlt : c < s.heap.objs.size := by
        have e' : c = z ∨ c = TI ∨ c = TO ∨ c = i1 ∨ c = i2 := by simpa using hcm
        rcases e' with q | q | q | q | q
        · rw [q]; exact hzl
        · rw [q]; exact Heap.lt_size hTI
        · rw [q]; exact Heap.lt_size hTO
        · rw [q]; obtain ⟨_, e1, _⟩ := Src.st_get h1; exact Heap.lt_size e1
        · rw [q]; obtain ⟨_, e2, _⟩ := Src.st_get h2; exact Heap.lt_size e2
      rw [upd_ne (Nat.ne_of_lt hlt)]
      exact (hf c hcm).1
  done := by
    intro X hP hw hK hc i pins s σ H E I hf st hg
    subst hP hw hK
    obtain ⟨hz, hTI, ⟨x0, y0, hTO⟩, h1, h2⟩ := st
    obtain ⟨xs, ys, hqx, hqy, hl1, hl2, hend⟩ := hg
    obtain ⟨fp1, P1, F1, D1, g1, b1, c1, m1, f1⟩ := Src.draws I hc hqx D.off1 h1
    obtain ⟨fp2, P2, F2, D2, g2, b2, c2, m2, f2⟩ := Src.draws I hc hqy D.off2 h2
    have sep : ZipSep2 z TI TO i1 i2 fp1 fp2 := ⟨D.TIz, D.TOz, D.TITO, D.TIi1, m1, fun q => (f1 z q).elim D.zi1 fun r => r D.z1, fun q => (f1 TO q).elim D.Ti1 fun r => r D.T1, D.TIi2, m2, fun q => (f2 z q).elim D.zi2 fun r => r D.z2, fun q => (f2 TO q).elim D.Ti2 fun r => r D.T2, fun q => (f2 i1 q).elim D.i12 fun r => r D.i1', fun q => (f1 i2 q).elim D.i12.symm fun r => r D.i2'⟩
    exact wpAny_pyNext_zipD2_end sep D1 D2 hz hTI hTO g1 g2 hl1 hl2 (hend.imp Eq.symm Eq.symm) fun h' tk hk => ⟨rfl, I.turnedL (t' := tk) (ch := [z, TI, TO, i1, i2]) (fun c o hb q =>
      hk c o (fun q' => hb (by simp [q'])) (fun q' => hb (by simp [q'])) (fun q' => hb (by simp [q'])) (fun q' => hb (by simp [q'])) q) hf⟩
  self := fun A i s Q E st h => wpAny_pyIter_zip st.1 h
/-- iter(v) of a source -/
theorem Src.begins {X : Cx} {pins : List (Addr × Obj)} {σ : L2.St} {H : Hp} {s : Shared} (I : Inv X pins σ H s) {S : Src} {xs : List V} (hx : S.has X.K H xs) {u : Value} (r : RelV S.v u) :
    ∃ (o : Obj) (HH : Heap → Prop), Begins u o HH ∧ HH s.heap ∧ (∀ it h, h.get? it = some o → S.st it 0 h) ∧ ∀ it, s.heap.objs.size ≤ it → S.off it ∧ S.no it := by
  cases S with
  | L a =>
    obtain ⟨its, rv, p, _⟩ := I.list hx
    cases r
    have hl := p.lt
    exact ⟨_, _, begins_list a its.toArray, p.isList, fun it h e => ⟨_, e, rfl, rfl⟩, fun it h => ⟨Nat.ne_of_lt (Nat.lt_of_lt_of_le hl h), Nat.ne_of_gt (Nat.lt_of_lt_of_le hl h)⟩⟩
  | T a =>
    obtain ⟨its, rv, p, _⟩ := I.tuple hx
    cases r
    have hl : a < s.heap.objs.size := by
      obtain ⟨o1, ho1, _⟩ := id p
      exact Heap.lt_size ho1
    exact ⟨_, _, begins_tuple a its.toArray, p, fun it h e => ⟨_, e, rfl, rfl⟩, fun it h => ⟨Nat.ne_of_lt (Nat.lt_of_lt_of_le hl h), Nat.ne_of_gt (Nat.lt_of_lt_of_le hl h)⟩⟩
  | X z =>
    obtain ⟨t, rfl⟩ := r
    exact ⟨_, _, begins_text z t, trivial, fun it h e => ⟨t, _, e, rfl, rfl⟩, fun it h => ⟨trivial, trivial⟩⟩
def iZipM (K : PySem.W.Frag) (ta : TA) : TI := fun σ H R => ta σ H fun vs H1 => ∃ S1 S2 xs ys, vs = [Src.v S1, Src.v S2] ∧ S1.has K H1 xs ∧ S2.has K H1 ys ∧ R (ItzM K S1 S2) H1
theorem pi_zipM {X : Cx} {e e2 : Expr} {ta : TA} {p pos tpos : Pos} {elts : List Expr} {kk : Nat} (hg : Gl X "zip") (hm : X.mg "zip" = none) (ha : PA X [e, e2] ta)
    (hs : starEach [e, e2] X.env = (false, eval e X.env) :: starEach [e2] X.env := by rfl) (hpl : (backTo pos (starEach [e2] X.env)).any (·.1) = false := by rfl) :
    PI X (.Tuple elts kk tpos) (.Call (.Name "zip" p) [e, e2] [] pos) (iZipM X.K ta) := by
  refine ⟨fun pins s σ H R I h => ?_⟩
  refine Call_ (ld_blt I hg hm PyProof.Rows.boot_zip (PyProof.Rows.callWith_type1 (thn (ha.run pos pins s σ H _ I h) fun us s1 ⟨vs, H1, I1, r1, q1⟩ => ?_) hs hpl))
  obtain ⟨S1, S2, xs, ys, ex, hqx, hqy, q⟩ := q1
  subst ex
  cases r1 with
  | cons r rr =>
    cases rr with
    | cons r' rr =>
      cases rr
      have fresh5 : ∀ c, c ∈ [s1.heap.objs.size + 4, s1.heap.objs.size + 2, s1.heap.objs.size + 3, s1.heap.objs.size, s1.heap.objs.size + 1] → FpOk X pins H1 c := fun c hcm => by
        have e' : c = s1.heap.objs.size + 4 ∨ c = s1.heap.objs.size + 2 ∨ c = s1.heap.objs.size + 3 ∨ c = s1.heap.objs.size ∨ c = s1.heap.objs.size + 1 := by simpa using hcm
        have hle : s1.heap.objs.size ≤ c := by
          rcases e' with z | z | z | z | z
          · rw [z]; exact Nat.le_add_right _ _
          · rw [z]; exact Nat.le_add_right _ _
          · rw [z]; exact Nat.le_add_right _ _
          · rw [z]; exact Nat.le_refl _
          · rw [z]; exact Nat.le_add_right _ _
        exact I1.fpOk hle (I1.hok.fresh hle)
      obtain ⟨o1, HH1, B1, k1, st1, n1⟩ := Src.begins I1 hqx r
      obtain ⟨o2, HH2, B2, k2, st2, n2⟩ := Src.begins I1 hqy r'
      refine zip_begins2 B1 B2 k1 k2 fun h' hz hTI hTO g1 g2 hsz hk => wpAny_pyIter_zip hz ?_
      have I2 : Inv X pins σ H1 { s1 with heap := h' } := I1.kept (t' := s1.toks) hk
      have ap : Apart (s1.heap.objs.size + 4) (s1.heap.objs.size + 2) (s1.heap.objs.size + 3) s1.heap.objs.size (s1.heap.objs.size + 1) S1 S2 := by
        generalize s1.heap.objs.size = N at n1 n2
        refine ⟨?_, ?_, ?_, ?_, ?_, ?_, ?_, ?_, ?_, ?_, (n1 N (Nat.le_refl _)).1, (n2 (N + 1) (Nat.le_add_right _ _)).1, (n1 (N + 4) (Nat.le_add_right _ _)).2, (n2 (N + 4) (Nat.le_add_right _ _)).2, (n1 (N + 3) (Nat.le_add_right _ _)).2, (n2 (N + 3) (Nat.le_add_right _ _)).2, (n2 N (Nat.le_refl _)).2, (n1 (N + 1) (Nat.le_add_right _ _)).2⟩ <;> (intro e; have e : (_ : Nat) = _ := e; omega)
      exact ⟨s1.heap.objs.size + 4, [s1.heap.objs.size + 4, s1.heap.objs.size + 2, s1.heap.objs.size + 3, s1.heap.objs.size, s1.heap.objs.size + 1], _, _, H1, rfl, I2, turn_zipM ap, ⟨hz, hTI, ⟨_, _, hTO⟩, st1 _ _ g1, st2 _ _ g2⟩, fresh5, q⟩
/-! the reading -/
def seqOf : D → Option (List D)
  | .lst ds => some ds
  | .tup ds => some ds
  | .str cs => some (cs.map fun c => D.str [c])
  | _ => none
def kzM (x y : S) : R (List D) := match seqOf x.d, seqOf y.d with
  | some ds, some es => .ok (zipD ds es)
  | _, _ => .bad
def aZipM (a b : Ex) : Ax := fun e => (a e).bind fun x => (b e).bind (kzM x)
/-- a source of data -/
theorem src_of {T : Tkn} {K : PySem.W.Frag} {N : Addr → Prop} {H : Hp} {d : D} {x : V} {ds : List D} (r : Rep K N H d x) (h : seqOf d = some ds) :
    ∃ S xs, x = Src.v S ∧ S.has K H xs ∧ RepL K N H ds xs ∧ ∀ H', Kp (fun a => N a ∧ H a ≠ none) H H' → S.has K H' xs := by
  match d, h, r with
  | .str cs, h, r =>
    cases h
    obtain rfl : x = .str ⟨cs.toArray⟩ := r
    refine ⟨.X ⟨cs.toArray⟩, _, rfl, rfl, ?_, fun H' _ => rfl⟩
    have e : (⟨cs.toArray⟩ : Str).cps.toList = cs := by simp
    rw [e]
    have go : ∀ cs : List Nat, RepL K N H (cs.map fun c => D.str [c]) (cs.map fun c => V.str ⟨#[c]⟩) := by
      intro cs
      induction cs with
      | nil => rfl
      | cons c cs ih => exact ⟨_, _, rfl, rfl, ih⟩
    exact go cs
  | .tup es, h, r =>
    cases h
    obtain ⟨a, xs, rfl, hs, rr⟩ := r
    exact ⟨.T a, xs, rfl, sqt hs, rr, fun H' k => sqt (k.2.rd hs)⟩
  | .lst es, h, r =>
    cases h
    obtain ⟨a, xs, rfl, ⟨hn, hs⟩, rr⟩ := r
    exact ⟨.L a, xs, rfl, .inl (.inl hs), rr, fun H' k => .inl (.inl (k.1 a xs ⟨hn, by rw [hs]; exact nofun⟩ hs))⟩
theorem it_zipM {T : Tkn} {K : PySem.W.Frag} {N : Addr → Prop} {H : Hp} {ds es : List D} {xs ys : List V} {S1 S2 : Src} (h1 : ∀ H', Kp N H H' → S1.has K H' xs) (r : RepL K N H ds xs) (h2 : ∀ H', Kp N H H' → S2.has K H' ys) (s : RepL K N H es ys) : ItRep K N H (zipD ds es) (ItzM K S1 S2) := by
  refine ⟨fun i H2 k hi => ?_, fun i H2 x H3 d k hd ⟨T, y1, y2, ex, hT, e3, f1, f2⟩ => ?_, fun i H2 k hi hi2 => ?_⟩
  · rw [zipD_len] at hi
    have g1 : i < xs.length := by rw [r.length]; omega
    have g2 : i < ys.length := by rw [s.length]; omega
    exact ⟨xs, ys, xs[i], ys[i], h1 H2 k, h2 H2 k, List.getElem?_eq_getElem g1, List.getElem?_eq_getElem g2⟩
  · subst ex e3
    obtain ⟨d1, d2, q1, q2, rfl⟩ := zipD_get ds es i d hd
    obtain ⟨v1, w1, k1⟩ := r.get q1
    obtain ⟨v2, w2, k2⟩ := s.get q2
    have e1 := f1 xs (h1 H2 k)
    have e2 := f2 ys (h2 H2 k)
    rw [w1] at e1
    rw [w2] at e2
    cases e1
    cases e2
    exact ⟨same_new hT, T, _, rfl, upd_same, _, _, rfl, (k1.kp k).same (same_new hT), _, _, rfl, (k2.kp k).same (same_new hT), rfl⟩
  · rw [zipD_len] at hi hi2
    have e1 := r.length
    have e2 := s.length
    exact ⟨xs, ys, h1 H2 k, h2 H2 k, by omega, by omega, by omega⟩
section
variable {X : Cx} {W : Wi} {a b : Expr} {m n : Ex} {l k : List Nat} {pos p : Pos}
theorem i_zipM {elts : List Expr} {kk : Nat} {tpos : Pos} (hm : X.mg "zip" = none) (ha : SE X W a m l) (hb : SE X W b n k) (hg : Gl X "zip" := by rfl) (he : starEach [a, b] X.env = (false, eval a X.env) :: starEach [b] X.env := by rfl) (he2 : starEach [b] X.env = (false, eval b X.env) :: starEach [] X.env := by rfl) (hpl : (backTo pos (starEach [b] X.env)).any (·.1) = false := by rfl) :
    SI X W (.Tuple elts kk tpos) (.Call (.Name "zip" p) [a, b] [] pos) (aZipM m n) (l ++ k) := by
  refine PI.imp (pi_zipM hg hm (pa_cons ha (pa_cons hb pa_nil he2) he) he hpl) fun σ H R0 ⟨T, B, Z, rt, e, r, q⟩ => ?_
  unfold aZipM at q
  refine tE_go r (fun d hd => by rw [hd] at q; exact q) (fun hd => by rw [hd] at q; exact q) fun s x H1 hs sm r1 rs => ?_
  rw [hs, R.bind_ok] at q
  refine tE_go r1 (fun d hd c o H' sm' => by rw [hd] at q; exact (fun z9 => q c o H' (sm.trans sm') (z9.mo sm))) (fun hd => by rw [hd] at q; exact q) fun s2 y H2 hs2 sm2 r2 rs2 => ?_
  rw [hs2, R.bind_ok] at q
  unfold kzM at q
  have e1 : Rep X.K (NZ W.g Z e rt (l ++ k) H) H2 s.d x := ((rs.mono fun a z => NZ.mono (fun i hi => List.mem_append_left _ hi) z).d fun a z => .inr (.inl z)).same sm2
  have e2 : Rep X.K (NZ W.g Z e rt (l ++ k) H) H2 s2.d y := (rs2.mono fun a z => (NZ.mono (fun i hi => List.mem_append_right _ hi) z).back sm).d fun a z => .inr (.inl (sm.free z))
  cases h1 : seqOf s.d with
  | none => simp only [h1] at q
  | some ds =>
    cases h2 : seqOf s2.d with
    | none => simp only [h1, h2] at q
    | some es =>
      simp only [h1, h2] at q
      obtain ⟨S1, xs, rfl, g1, g2, g3⟩ := src_of e1 h1
      obtain ⟨S2, ys, rfl, f1, f2, f3⟩ := src_of e2 h2
      have al : ∀ {ds : List D} {xs : List V}, RepL X.K (NZ W.g Z e rt (l ++ k) H) H2 ds xs → RepL X.K (fun a => NZ W.g Z e rt (l ++ k) H a ∧ H2 a ≠ none) H2 ds xs := fun h => RepL.imp (fun a ys n z => ⟨⟨n, by rw [z]; exact nofun⟩, z⟩) (Still.refl _) _ _ h
      exact ⟨S1, S2, xs, ys, rfl, g1, f1, q _ H2 (sm.trans sm2) (it_zipM g3 (al g2) f3 (al f2))⟩
end
end Tg

/-! Tg, part 20: dicts of the module and constant ones, what is known to bear no list, a list display read at once. -/
namespace Tg
open PySem PySem.Spec PyProof.Rows L2
section
variable {X : Cx} {W : Wi} {H0 : Hp} {Z0 : Addr → Prop} {lk : List Nat} {a b : Expr} {m n : Ex} {l k : List Nat} {pos p2 apos epos : Pos} {x : Str}
/-! a dict of the module -/
def GDic (K : PySem.W.Frag) (w : World) (d : Addr) (kvs : List (List Nat × D)) : Prop := ∀ s v, lookD kvs s = some v → v.flat = true ∧ ∃ x, KDct K w d ⟨s.toArray⟩ x ∧ ∀ {T : Tkn} N H, Rep K N H v x
theorem gd_nil {K : PySem.W.Frag} {w : World} {d : Addr} : GDic K w d [] := fun s v h => by cases h
theorem gd_cons {K : PySem.W.Frag} {w : World} {d : Addr} {r : List (List Nat × D)} {s t : List Nat} {es : Array DictEntry} {c : Nat} {tk : Tok} {z : Str} (hl : K.lookup d = some ⟨.type "dict", none, .dict es c, #[]⟩) (hk : PySem.W.KeysLit w.params es.toList) (hs : z = ⟨s.toArray⟩) {z2 : Str} (ht : z2 = ⟨t.toArray⟩) (h : PySem.W.nsIn K d z = some (some (.str z2 tk))) (g : GDic K w d r) : GDic K w d ((s, .str t) :: r) := fun q v e => by
  by_cases c : s = q
  · subst c
    have e : some (D.str t) = some v := by simpa [lookD] using e
    cases e
    subst hs ht
    exact ⟨rfl, .str ⟨t.toArray⟩, ⟨es, _, _, hl, hk, h, tk, rfl⟩, fun N H => rfl⟩
  · refine g q v ?_
    have e2 : lookD ((s, .str t) :: r) q = lookD r q := by simp [lookD, List.find?_cons, c]
    rw [← e2]
    exact e
theorem x_gdic {d : Addr} (kvs : List (List Nat × D)) (hm : X.mg x = some (.ref d)) (TG : GDic X.K X.w d kvs) (hb : SE X W b n k) (hg : Gl X x := by rfl) (hd : (x == ("__debug__" : Str)) = false := by decide) (hs : PlainIx b := by exact fun _ _ => rfl) : SE X W (.Subscript (.Name x p2) b pos) (eDic kvs n) [] := by
  refine x_flat (l := []) (PE.imp (pe_ix ix_kdict (pe_glob hg hm (show RelV (.ref d) (.ref d) from rfl) hd) hb hs) fun σ H Q ⟨T, B, Z, rt, e, r, q⟩ => ?_) fun e s q => ?_
  · unfold eDic at q
    refine tE_go r (fun d hd c o H' sm' => by rw [hd] at q; exact q c o H' sm') (fun hd => by rw [hd] at q; exact q) fun s y H2 hs2 sm2 r2 rs => ?_
    rw [hs2, R.bind_ok] at q
    have rd := rs.d (N := NZ W.g Z e rt k H) fun a z => .inr (.inl z)
    cases hd : s.d <;> simp only [hd] at q
    rename_i t
    cases hk : lookD kvs t with
    | none => simp only [hk] at q
    | some v =>
      simp only [hk] at q
      rw [hd] at rd
      obtain rfl : y = .str ⟨t.toArray⟩ := rd
      obtain ⟨_, x, h1, h2⟩ := TG t v hk
      exact ⟨d, _, x, rfl, rfl, h1, q x H2 sm2 (h2 _ _)⟩
  · unfold eDic at q
    cases hn : n e with
    | bad => rw [hn] at q; cases q
    | ex d => rw [hn] at q; cases q
    | ok x =>
      rw [hn, R.bind_ok] at q
      cases hd : x.d <;> simp only [hd] at q <;> first | cases q | skip
      rename_i t
      cases hk : lookD kvs t with
      | none => simp only [hk] at q; cases q
      | some v =>
        simp only [hk] at q
        cases q
        exact ⟨v, rfl, (TG t v hk).1⟩
/-! what is known to bear no list shares with nothing -/
def kFl (s : S) : R S := if s.flat = true then .ok s else .bad
def eFl (m : Ex) : Ex := fun e => (m e).bind kFl
theorem x_fl {x : Expr} (h : SE X W x m l) : SE X W x (eFl m) [] := PE.imp h fun σ H Q ⟨T, B, Z, rt, e, r, q⟩ => ⟨T, B, Z, rt, e, r, by
  unfold eFl at q
  cases hm : m e with
  | bad => rw [hm] at q; exact q
  | ex d => rw [hm] at q; exact q
  | ok s =>
    rw [hm, R.bind_ok] at q
    unfold kFl at q
    by_cases hf : s.flat = true
    · rw [if_pos hf] at q
      intro x H' sm rs
      refine q x H' sm ?_
      cases s with
      | val d => exact Rep.flat (Still.refl _) d x hf rs
      | own ds =>
        obtain ⟨r, xs, e, h1, h2, h3⟩ := rs
        exact ⟨r, xs, e, h1, h2, RepL.flat (Still.refl _) ds xs hf h3⟩
      | dct t kvs => exact rs.elim
      | sto _ _ => exact rs.elim
      | both _ _ => exact absurd hf (by simp [S.flat])
    · rw [if_neg hf] at q
      exact q.elim⟩
/-! [a, b, ..][k]: the chosen thing keeps its own list -/
abbrev AxS := En → R (List S)
def cNil : AxS := fun _ => .ok []
def kc2 (x : S) (xs : List S) : R (List S) := .ok (x :: xs)
def kc1 (r : AxS) (e : En) (x : S) : R (List S) := (r e).bind (kc2 x)
def cCons (a : Ex) (r : AxS) : AxS := fun e => (a e).bind (kc1 r e)
def RepSL [T : Tkn] (K : PySem.W.Frag) (N : Addr → Prop) (H H' : Hp) : List S → List V → Prop
  | [], xs => xs = []
  | s :: r, xs => ∃ y ys, xs = y :: ys ∧ RepS K N H H' s y ∧ RepSL K N H H' r ys
theorem RepSL.mono {T : Tkn} {K : PySem.W.Frag} {N N' : Addr → Prop} {H H' : Hp} (f : ∀ a, N a → N' a) : ∀ {ss : List S} {xs : List V}, RepSL K N H H' ss xs → RepSL K N' H H' ss xs
  | [], _, h => h
  | _ :: _, _, ⟨y, ys, e, h1, h2⟩ => ⟨y, ys, e, h1.mono f, h2.mono f⟩
theorem RepSL.back {T : Tkn} {K : PySem.W.Frag} {N : Addr → Prop} {H H' H0 : Hp} (sm : Same H0 H) : ∀ {ss : List S} {xs : List V}, RepSL K N H H' ss xs → RepSL K N H0 H' ss xs
  | [], _, h => h
  | _ :: _, _, ⟨y, ys, e, h1, h2⟩ => ⟨y, ys, e, h1.back sm, h2.back sm⟩
theorem RepSL.same {T : Tkn} {K : PySem.W.Frag} {N : Addr → Prop} {H H' H2 : Hp} (sm : Same H' H2) : ∀ {ss : List S} {xs : List V}, RepSL K N H H' ss xs → RepSL K N H H2 ss xs
  | [], _, h => h
  | _ :: _, _, ⟨y, ys, e, h1, h2⟩ => ⟨y, ys, e, h1.same sm, h2.same sm⟩
theorem RepSL.length {T : Tkn} {K : PySem.W.Frag} {N : Addr → Prop} {H H' : Hp} : ∀ {ss : List S} {xs : List V}, RepSL K N H H' ss xs → xs.length = ss.length
  | [], _, h => by rw [show _ = [] from h]; rfl
  | _ :: _, _, ⟨y, ys, e, h1, h2⟩ => by rw [e, List.length_cons, List.length_cons, h2.length]
theorem RepSL.get {T : Tkn} {K : PySem.W.Frag} {N : Addr → Prop} {H H' : Hp} : ∀ {ss : List S} {xs : List V} {i : Nat} {s : S}, RepSL K N H H' ss xs → ss[i]? = some s → ∃ x, xs[i]? = some x ∧ RepS K N H H' s x
  | [], _, _, _, _, q => by simp at q
  | s :: r, _, 0, c, ⟨y, ys, e, h1, _⟩, q => by
    have q' : s = c := by simpa using q
    subst q'
    exact ⟨y, by rw [e]; rfl, h1⟩
  | s :: r, _, i + 1, _, ⟨y, ys, e, _, h2⟩, q => by
    obtain ⟨x, e1, h⟩ := RepSL.get (i := i) h2 (by simpa using q)
    exact ⟨x, by rw [e]; simpa using e1, h⟩
def tC (K : PySem.W.Frag) (W : Wi) (m : AxS) (l : List Nat) : TA := fun σ H Q => ∃ (T : Tkn) (B : Addr → Prop) (Z : Nat → Addr → Prop) (rt : Nat → Addr) (e : En), Rel K B W.g Z rt e σ H ∧
  match m e with
  | .ok ss => ∀ xs H', Same H H' → RepSL K (NZ W.g Z e rt l H) H H' ss xs → Q xs H'
  | .ex d => ∀ c o H', Same H H' → (XC W.xr H d c o H' → W.w c o σ H')
  | .bad => False
abbrev SC (X : Cx) (W : Wi) (x : List Expr) (m : AxS) (l : List Nat) : Prop := PA X x (Tg.tC X.K W m l)
theorem c_nil : SC X W [] cNil [] := PA.imp pa_nil fun σ H Q ⟨T, B, Z, rt, e, r, q⟩ => q [] H (Same.refl H) rfl
theorem c_cons {x : Expr} {xs : List Expr} {m : Ex} {n : AxS} {l k : List Nat} (h : SE X W x m l) (g : SC X W xs n k) (hs : starEach (x :: xs) X.env = (false, eval x X.env) :: starEach xs X.env := by rfl) : SC X W (x :: xs) (cCons m n) (l ++ k) := by
  refine PA.imp (pa_cons h g hs) fun σ H Q ⟨T, B, Z, rt, e, r0, q⟩ => ?_
  unfold cCons at q
  refine tE_go r0 (fun d hd => by rw [hd] at q; exact q) (fun hd => by rw [hd] at q; exact q) fun s x H1 hs sm r1 rs => ?_
  rw [hs, R.bind_ok] at q
  unfold kc1 at q
  refine ⟨T, B, Z, rt, e, r1, ?_⟩
  cases hn : n e with
  | bad => rw [hn] at q; exact q.elim
  | ex d =>
    rw [hn] at q
    exact fun c o H' sm' => (fun z9 => q c o H' (sm.trans sm') (z9.mo sm))
  | ok ss =>
    rw [hn, R.bind_ok] at q
    exact fun ys H2 sm2 rs2 => q _ H2 (sm.trans sm2) ⟨x, ys, rfl, (rs.mono fun a z => NZ.mono (fun i hi => List.mem_append_left _ hi) z).same sm2, (rs2.mono fun a z => (NZ.mono (fun i hi => List.mem_append_right _ hi) z).back sm).back sm⟩
def kSel (ss : List S) (k : S) : R S := match k.d with
  | .int i => (match atI ss i with
    | some s => .ok s
    | none => .bad)
  | _ => .bad
def kSel0 (n : Ex) (e : En) (ss : List S) : R S := if ss.length ≤ 100 then (n e).bind (kSel ss) else .bad
def eSel (m : AxS) (n : Ex) : Ex := fun e => (m e).bind (kSel0 n e)
theorem x_sel {xs : List Expr} {m : AxS} {p1 : Pos} (ha : SC X W xs m l) (hb : SE X W b n k) (hs : PlainIx b := by exact fun _ _ => rfl) : SE X W (.Subscript (.List xs p1) b pos) (eSel m n) l := by
  refine PE.imp (pe_ix ix_seq (pe_lst ha) hb hs) fun σ H Q ⟨T, B, Z, rt, e, r0, q⟩ => ?_
  unfold eSel at q
  refine ⟨T, B, Z, rt, e, r0, ?_⟩
  cases hm : m e with
  | bad => rw [hm] at q; exact q.elim
  | ex d => rw [hm] at q; exact q
  | ok ss =>
    rw [hm, R.bind_ok] at q
    unfold kSel0 at q
    by_cases hl : ss.length ≤ 100
    case neg => rw [if_neg hl] at q; exact fun _ _ _ _ => q.elim
    rw [if_pos hl] at q
    intro ys H1 sm rs
    refine ⟨by rw [rs.length]; exact small_line hl, fun p hp => ?_⟩
    have sm2 : Same H1 (upd H1 p (.lst ys)) := same_new hp
    have r1 := r0.ext (sm.trans sm2)
    refine tE_go r1 (fun d hd c o H' sm' => by rw [hd] at q; exact (fun z9 => q c o H' ((sm.trans sm2).trans sm') (z9.mo (sm.trans sm2)))) (fun hd => by rw [hd] at q; exact q) fun s2 y H2 hs2 sm3 r2 rs2 => ?_
    rw [hs2, R.bind_ok] at q
    unfold kSel at q
    cases hd : s2.d <;> simp only [hd] at q
    rename_i i
    obtain rfl := int_of rs2 hd
    cases hi : L2.atI ss i with
    | none => simp only [hi] at q
    | some s =>
      simp only [hi] at q
      obtain ⟨v, h1, h2⟩ : ∃ v, L2.atI ys i = some v ∧ RepS X.K (NZ W.g Z e rt l H) H H1 s v := by
        unfold L2.atI at hi ⊢
        rw [rs.length]
        cases q2 : ixN ss.length i with
        | none => rw [q2] at hi; cases hi
        | some j =>
          rw [q2] at hi
          exact rs.get hi
      exact .inl ⟨p, ys, i, v, rfl, rfl, .inl (.inl (sm3 _ _ upd_same)), h1, q v H2 ((sm.trans sm2).trans sm3) (h2.same (sm2.trans sm3))⟩
/-! x = {..} of constants -/
def kvI (kvs : List (List Nat × D)) : List (List Int × D) := kvs.map fun p => (p.1.map Int.ofNat, p.2)
def sDCst (i : Nat) (kvs : List (List Nat × D)) : Sx := fun e => .ok (.nx (e.set i (some (.dct 2 (kvI kvs)))))
/-- keys unlike, values texts or ints -/
def cstOk (kvs : List (List Nat × D)) : Bool := decide (kvs.length ≤ 15) && kvs.all (fun p => match p.2 with | .str _ => true | .int _ => true | _ => false) && decide (mergeK [] (kvs.map kcv) = kvs.map kcv)
theorem s_dcst (i : Nat) (kvs : List (List Nat × D)) {keys : List (Option Expr)} {values : List Expr} {p1 p : Pos} (h : PPs X p1 keys values ((kvs.map kcv).map fun kv => (L2.tC (kV kv.1), L2.tC kv.2))) (hN : X.N.Nodup) (ok : cstOk kvs = true := by decide +kernel) (hi : X.N[i]? = some x := by rfl) (hx : Loc X.env.scope x := by first | exact Or.inl rfl | exact Or.inr rfl)
    (hall : keys.all (·.isSome) = true := by rfl) (hl : keys.length = values.length := by rfl) (h0 : keys ≠ [] := by exact List.cons_ne_nil _ _) (h15 : keys.length ≤ 15 := by decide) (hs : swapsWith (.Dict keys values p1) (some (.Name x p)) pos.line X.env = pure false := by rfl) (hf : X.fn x = true ∨ X.env.scope.names.lookup x = some .local := by first | exact .inl rfl | exact .inr rfl | assumption) :
    SS X W H0 Z0 lk (.Assign [.Name x p] (.Dict keys values p1) pos) (sDCst i kvs) := by
  refine PS.imp (ps_set hN hi hx (pe_disp h hall hl h0 h15) hs hf) fun D σ H ⟨T, Zl, Hb, e, ⟨s0, kp, Z, rt, h1, h2, r⟩, q⟩ => ?_
  simp only [cstOk, Bool.and_eq_true, decide_eq_true_eq] at ok
  obtain ⟨⟨ok1, ok2⟩, ok3⟩ := ok
  intro p hp
  refine tPairs_const _ σ _ _ ⟨upd_same, _, rfl, by rw [List.length_map]; exact ok1, ?_⟩
  rw [upd_upd, ok3]
  have sm : Same H (upd H p (.dK (kvs.map kcv))) := same_new hp
  have dr : ∀ (H : Hp) (kvs : List (List Nat × Tg.D)), (kvs.all (fun p => match p.2 with | .str _ => true | .int _ => true | _ => false)) = true → DR fS X.K H (kvI kvs) (kvs.map kcv) := by
    intro H kvs
    induction kvs with
    | nil => exact fun _ => .nil
    | cons pr kvs ih =>
      intro hh
      rw [List.all_cons, Bool.and_eq_true] at hh
      obtain ⟨s, d⟩ := pr
      have ek : (.inr ⟨s.toArray⟩ : Key) = fS (s.map Int.ofNat) := by
        unfold fS
        rw [List.map_map]
        have : (Int.toNat ∘ Int.ofNat) = (id : Nat → Nat) := by funext n; rfl
        rw [this, List.map_id]
      cases d with
      | str t =>
        have g := DR.cons (f := fS) (K := X.K) (H := H) (k := s.map Int.ofNat) (d := .str t) (y := .str ⟨t.toArray⟩) rfl rfl (ih hh.2)
        rw [← ek] at g
        exact g
      | int j =>
        have g := DR.cons (f := fS) (K := X.K) (H := H) (k := s.map Int.ofNat) (d := .int j) (y := .int j) rfl rfl (ih hh.2)
        rw [← ek] at g
        exact g
      | _ => exact absurd hh.1 (by simp)
  have r2 := (r.ext sm).setRoot i (s := .dct 2 (kvI kvs)) trivial (q := p) (r.yg p hp) (fun g z => r.al g p z hp) (fun ds e => nomatch e) (fun t' kvs' e => by
    cases e
    refine ⟨_, upd_same, fun pr hpr => ?_, _, rfl, dr _ kvs ok2⟩
    obtain ⟨w, _, rfl⟩ := List.mem_map.mp hpr
    show List.all _ _ = true
    rw [List.all_eq_true]
    intro j hj
    obtain ⟨c, _, rfl⟩ := List.mem_map.mp hj
    exact decide_eq_true (Int.natCast_nonneg c)) (fun j u _ k hu z => (r.live k hu).1 (by rw [z]; exact hp)) (fun k z => (r.tks k p z).1 hp)
  exact q _ _ (.new s0 kp sm h1 h2 r2)
end
end Tg

/-! Tg, part 22: lists within told things are cleared. -/
namespace Tg
open PySem PySem.Spec PyProof.Rows L2

theorem killE_length (e : En) : ∀ sl : List Nat, (killE sl e).length = e.length
  | [] => rfl
  | i :: r => by
    unfold killE
    split
    · rw [List.length_set, killE_length e r]
    · exact killE_length e r
theorem killE_get {e : En} {i : Nat} {s : S} : ∀ {sl : List Nat}, (killE sl e)[i]? = some (some s) → (i ∈ sl ∧ ∃ s0, e[i]? = some (some s0) ∧ s = s0.kill) ∨ (i ∉ sl ∧ e[i]? = some (some s))
  | [], h => .inr ⟨nofun, h⟩
  | j :: r, h => by
    unfold killE at h
    have next : (killE r e)[i]? = some (some s) → (i ≠ j ∨ ∀ s0, e[j]? ≠ some (some s0)) → (i ∈ j :: r ∧ ∃ s0, e[i]? = some (some s0) ∧ s = s0.kill) ∨ (i ∉ j :: r ∧ e[i]? = some (some s)) := fun h hn => by
      rcases killE_get h with ⟨h1, h2⟩ | ⟨h1, h2⟩
      · exact .inl ⟨List.mem_cons_of_mem _ h1, h2⟩
      · by_cases c : i = j
        · subst c
          rcases hn with hn | hn
          · exact absurd rfl hn
          · exact absurd h2 (hn s)
        · exact .inr ⟨fun z => (List.mem_cons.mp z).elim c h1, h2⟩
    split at h
    · rename_i s0 he
      by_cases c : j = i
      · subst c
        have hl : j < (killE r e).length := by rw [killE_length]; exact (List.getElem?_eq_some_iff.mp he).1
        rw [List.getElem?_set_self hl] at h
        cases h
        exact .inl ⟨List.mem_cons_self, s0, he, rfl⟩
      · rw [List.getElem?_set_ne c] at h
        exact next h (.inl fun z => c z.symm)
    · rename_i hn
      exact next h (.inr fun s0 z => hn s0 z)
theorem kill_val {s : S} {d : D} (h : S.val d = s.kill) : ∃ d0, s = .val d0 ∧ d = d0.kill := by
  cases s with
  | val d0 => cases h; exact ⟨d0, rfl, rfl⟩
  | own ds => cases h
  | dct t kvs => cases h
  | sto _ _ => cases h
  | both _ _ => cases h
theorem kill_own {s : S} {ds : List D} (h : S.own ds = s.kill) : ∃ ds0, s = .own ds0 ∧ ds = D.killL ds0 := by
  cases s with
  | val d0 => cases h
  | own ds0 => cases h; exact ⟨ds0, rfl, rfl⟩
  | dct t kvs => cases h
  | sto _ _ => cases h
  | both _ _ => cases h
theorem kill_dct {s : S} {t : Nat} {kvs : List (List Int × D)} (h : S.dct t kvs = s.kill) : s = .dct t kvs := by
  cases s with
  | val d0 => cases h
  | own ds0 => cases h
  | dct t kvs => cases h; rfl
  | sto _ _ => cases h
  | both _ _ => cases h
theorem kill_sto {s : S} (h : isSto s.kill = true) : False := by cases s <;> cases h
theorem kill_rooted {s : S} (h : s.kill.rooted) : s.rooted := by cases s <;> first | exact h | trivial

section
variable {T : Tkn} {K : PySem.W.Frag} {B : Addr → Prop} {G : Nat → Nat} {Z : Nat → Addr → Prop} {rt : Nat → Addr} {e : En} {σ : L2.St} {H : Hp}
/-- one list of the group p is written: what the group's slots bear is no longer known -/
theorem Rel.killW (r : Rel K B G Z rt e σ H) {p : Nat} {a : Addr} {xs ys : List V} (hz : Z p a) (ha : H a = some (.lst xs)) {sl : List Nat} (hsl : ∀ i s, e[i]? = some (some s) → G i = p → i ∈ sl) : Rel K B G Z rt (killE sl e) σ (upd H a (.lst ys)) := by
  have ht : Still H (upd H a (.lst ys)) := still_lst ha
  have kl : ∀ q b zs, Z q b → H b = some (.lst zs) → Z q b ∧ ∃ us, upd H a (.lst ys) b = some (.lst us) := fun q b zs z h => by
    refine ⟨z, ?_⟩
    by_cases c : b = a
    · subst c; exact ⟨ys, upd_same⟩
    · rw [upd_ne c]; exact ⟨zs, h⟩
  have im : ∀ q, q ≠ p → ∀ b zs, Z q b → H b = some (.lst zs) → Z q b ∧ upd H a (.lst ys) b = some (.lst zs) := fun q hq b zs z h => by
    refine ⟨z, ?_⟩
    rw [upd_ne fun c => hq (r.dj q p b z (by rw [c]; exact hz))]
    exact h
  have rn : ∀ i, (∀ q, ¬ Z q (rt i)) → rt i ≠ a := fun i h c => h p (by rw [c]; exact hz)
  have old : ∀ {i : Nat} {s : S}, (killE sl e)[i]? = some (some s) → s.rooted → ∃ s0, e[i]? = some (some s0) ∧ s0.rooted := fun {i s} h hr => by
    rcases killE_get h with ⟨_, s0, h2, h3⟩ | ⟨_, h2⟩
    · subst h3; exact ⟨s0, h2, kill_rooted hr⟩
    · exact ⟨s, h2, hr⟩
  have olds : ∀ {i : Nat} {s : S}, (killE sl e)[i]? = some (some s) → isSto s = true → i ∉ sl ∧ e[i]? = some (some s) := fun {i s} h hr => by
    rcases killE_get h with ⟨_, s0, h2, h3⟩ | ⟨hn, h2⟩
    · subst h3; exact (kill_sto hr).elim
    · exact ⟨hn, h2⟩
  refine ⟨by rw [killE_length]; exact r.len, fun i d q => ?_, fun i ds q => ?_, fun i t kvs q => ?_, fun i j s u q1 q2 h1 h2 h => ?_, fun q b z => ?_, r.dj, r.nw, fun b h => ?_, fun i m os q => ?_, fun k b q => ⟨?_, fun i s q1 hs => ?_⟩, r.tki, fun i j s u q1 q2 h1 h2 => r.stu i j s u (olds q1 h1).2 (olds q2 h2).2 h1 h2⟩
  · rcases killE_get q with ⟨_, s0, h2, h3⟩ | ⟨hn, h2⟩
    · obtain ⟨d0, rfl, rfl⟩ := kill_val h3
      obtain ⟨x, h4, h5⟩ := r.val i d0 h2
      exact ⟨x, h4, Rep.kill (kl _) ht d0 x h5⟩
    · obtain ⟨x, h4, h5⟩ := r.val i d h2
      exact ⟨x, h4, Rep.imp (im _ fun z => hn (hsl i _ h2 z)) ht d x h5⟩
  · rcases killE_get q with ⟨_, s0, h2, h3⟩ | ⟨hn, h2⟩
    · obtain ⟨ds0, rfl, rfl⟩ := kill_own h3
      obtain ⟨h4, h5, h6, zs, h7, h8⟩ := r.own i ds0 h2
      exact ⟨h4, h5, h6, zs, by rw [upd_ne (rn i h6)]; exact h7, RepL.kill (kl _) ht ds0 zs h8⟩
    · obtain ⟨h4, h5, h6, zs, h7, h8⟩ := r.own i ds h2
      exact ⟨h4, h5, h6, zs, by rw [upd_ne (rn i h6)]; exact h7, RepL.imp (im _ fun z => hn (hsl i _ h2 z)) ht ds zs h8⟩
  · have h2 : e[i]? = some (some (.dct t kvs)) := by
      rcases killE_get q with ⟨_, s0, h2, h3⟩ | ⟨_, h2⟩
      · rw [kill_dct h3] at h2; exact h2
      · exact h2
    obtain ⟨h4, h5, h6, o, h7, h8⟩ := r.dct i t kvs h2
    exact ⟨h4, h5, h6, o, by rw [upd_ne (rn i h6)]; exact h7, h8.still ht⟩
  · obtain ⟨s0, h3, h4⟩ := old q1 h1
    obtain ⟨u0, h5, h6⟩ := old q2 h2
    exact r.injs i j s0 u0 h3 h5 h4 h6 h
  · by_cases c : b = a
    · subst c; rw [upd_same]; exact nofun
    · rw [upd_ne c]; exact r.al q b z
  · by_cases c : b = a
    · subst c; rw [upd_same] at h; cases h
    · rw [upd_ne c] at h; exact r.yg b h
  · obtain ⟨hn, h2⟩ := olds q rfl
    obtain ⟨h3, h4, h5, h6⟩ := r.sto i m os h2
    have gp : G i ≠ p := fun z => hn (hsl i _ h2 z)
    refine ⟨h3.imp (fun d x => Rep.imp (im _ gp) ht d x) (fun ds xs => RepL.imp (im _ gp) ht ds xs) (fun k b u z h => ?_), h4, h5, h6⟩
    rw [upd_ne fun c => ?_]
    · exact h
    · subst c
      by_cases hm : m = 0
      · exact gp (r.dj _ _ _ (h4 hm k b z) hz)
      · exact h5 hm k b z p hz
  · by_cases c : b = a
    · subst c; rw [upd_same]; exact nofun
    · rw [upd_ne c]; exact (r.tks k b q).1
  · obtain ⟨s0, h3, h4⟩ := old q1 hs
    exact (r.tks k b q).2 i s0 h3 h4
end
/-- E.clear() of a list within something told: al the slots it may share with, sl all slots of their group, n how many slots there are -/
def kClN (al sl : List Nat) (n : Nat) (e : En) (s : S) : R Fl := if e.length ≤ n then match s.d with
  | .lst _ => .ok (.nx (killE sl (freeze al e)))
  | .jnk => .ok (.nx (killE sl (freeze al e)))
  | _ => .bad
  else .bad
def sClearN (al sl : List Nat) (n : Nat) (a : Ex) : Sx := fun e => (a e).bind (kClN al sl n e)
/-- all slots of the group p stand in sl -/
def allIn (G : Nat → Nat) (p n : Nat) (sl : List Nat) : Bool := (List.range n).all fun i => G i != p || sl.contains i
theorem allIn_of {G : Nat → Nat} {p n : Nat} {sl : List Nat} (h : allIn G p n sl = true) {i : Nat} (hi : i < n) (hp : G i = p) : i ∈ sl := by
  have := List.all_eq_true.mp h i (List.mem_range.mpr hi)
  rw [hp] at this
  simpa using this
section
variable {X : Cx} {W : Wi} {H0 : Hp} {Z0 : Addr → Prop} {lk : List Nat} {ax : Expr} {m : Ex} {l : List Nat} {pos apos cpos epos : Pos}
/-- behind a write of a list of the group p, which is no argument's -/
theorem Body.killW {T : Tkn} {K : PySem.W.Frag} {G : Nat → Nat} {Zl : Nat → Addr → Prop} {Hb : Hp × Tkn} {e : En} {σ : L2.St} {H H1 : Hp} {Z : Nat → Addr → Prop} {rt : Nat → Addr} {p : Nat} {a : Addr} {xs ys : List V} {sl : List Nat} (s0 : Same H0 H) (kp : KT (fun a => ∃ p, Zl p a) Hb T H) (sm : Same H H1) (h1 : ∀ p a, Zl p a → p ∈ lk ∧ Z p a) (h2 : ∀ p a, Z p a → p = 99 ∨ Z0 a ∨ H0 a = none)
    (r : Rel K (fun a => H0 a = none) G Z rt e σ H1) (hp : p ≠ 0 ∧ p ≠ 99) (hk : p ∉ lk) (hz : Z p a) (ha : H1 a = some (.lst xs)) (hsl : ∀ i s, e[i]? = some (some s) → G i = p → i ∈ sl) : Body K G H0 Z0 lk Zl Hb (killE sl e) σ (upd H1 a (.lst ys)) := by
  have young : H0 a = none := r.nw p a hp.1 hp.2 hz
  refine ⟨fun b u z => ?_, ?_, Z, rt, h1, h2, r.killW hz ha hsl⟩
  · rw [upd_ne fun w => by subst w; rw [young] at z; cases z]
    exact (s0.trans sm) _ _ z
  · refine (kp.trans (same_kp sm)).trans ⟨fun b zs ⟨q, z⟩ w => ?_, still_lst ha⟩
    have := h1 q b z
    rw [upd_ne fun y => by subst y; exact hk (by rw [← r.dj q p b this.2 hz]; exact this.1)]
    exact w
theorem s_clearN (p : Nat) (sl : List Nat) (n : Nat) (ha : SE X W ax m l)
    (hbase : attributeBase ax "clear" X.env (eval ax X.env) = eval ax X.env := by rfl) (hline : (apos.endLine == cpos.line) = true := by rfl)
    (hsw : swapsWith (.Call (.Attribute ax "clear" apos) [] [] cpos) none epos.line X.env = pure false := by rfl) (hl : allg W.g p l = true := by rfl) (hn : lk.contains p = false := by rfl) (hp : (p != 0 && p != 99) = true := by rfl) (hsl : allIn W.g p n sl = true := by rfl) :
    SS X W H0 Z0 lk (.Expr (.Call (.Attribute ax "clear" apos) [] [] cpos) epos) (sClearN l sl n m) := by
  refine PS.imp (ps_expr (pe_bm0 PySem.F.plainAttrs_list PySem.F.slot_list_clear PySem.F.type_list_clear mt_clear ha hbase hline) hsw) fun D σ H ⟨T, Zl, Hb, e, ⟨s0, kp, Z, rt, h1, h2, r0⟩, q⟩ => ?_
  unfold sClearN at q
  refine tE_go r0 (fun d hd c o H' sm => by rw [hd] at q; exact (fun z9 => q c o σ H' (s0.trans sm) (z9.mo s0))) (fun hd => by rw [hd] at q; exact q) fun s x H1 hs sm r1 rs => ?_
  rw [hs, R.bind_ok] at q
  unfold kClN at q
  by_cases hlen : e.length ≤ n
  case neg => rw [if_neg hlen] at q; exact q.elim
  rw [if_pos hlen] at q
  have hl := allg_of hl
  have hp' : p ≠ 0 ∧ p ≠ 99 := by simpa using hp
  have hk' : p ∉ lk := by simpa using hn
  have r2 := r0.grow sm p l hl fun _ => False
  have rd : Rep X.K (NZ W.g Z e rt l H) H1 s.d x := rs.d fun a h => .inr (.inl h)
  have zs : ∀ a, NZ W.g Z e rt l H a → H1 a ≠ none → ZN p Z e rt l H H1 (fun _ => False) p a := fun a z h => zn_sub hl z (fun z => z) h
  have hsl' : ∀ i s, (freeze l e)[i]? = some (some s) → W.g i = p → i ∈ sl := fun i s h hg => by
    refine allIn_of hsl ?_ hg
    have := (List.getElem?_eq_some_iff.mp h).1
    rw [freeze_length] at this
    omega
  have fin : ∀ a xs, x = .ref a → NZ W.g Z e rt l H a → H1 a = some (.lst xs) → Out X.K W H0 Z0 lk Zl Hb D (.ok (.nx (killE sl (freeze l e)))) → (tyV X.K "list" x H1 ∧ rClear x [] H1 fun x H' => D.nx σ H') := fun a xs hx hN hH q => by
    subst hx
    refine ⟨.inl ⟨rfl, xs, .inl (.inl hH)⟩, a, xs, rfl, rfl, hH, q (T2 := T) σ _ ?_⟩
    exact Body.killW s0 kp sm (up1 h1 fun p a z => .inl z) (up2 h2 fun q a z => by
      rcases z with z | ⟨_, ⟨z, _⟩ | z⟩
      · exact .inl z
      · exact .inr (s0.free z)
      · exact .inr (r0.root z).1) r2 hp' hk' (zs a hN (by rw [hH]; exact nofun)) hH hsl'
  cases hd : s.d with
  | lst ds =>
    rw [hd] at q rd
    obtain ⟨a, xs, hx, ⟨n1, n2⟩, _⟩ := rd
    exact fin a xs hx n1 n2 q
  | jnk =>
    rw [hd] at q rd
    obtain ⟨a, xs, hx, n1, n2⟩ := rd
    exact fin a xs hx n1 n2 q
  | non => rw [hd] at q; exact q.elim
  | bl b => rw [hd] at q; exact q.elim
  | int i => rw [hd] at q; exact q.elim
  | str t => rw [hd] at q; exact q.elim
  | tup ds => rw [hd] at q; exact q.elim
  | scr ns => rw [hd] at q; exact q.elim
  | exc c fs => rw [hd] at q; exact q.elim
  | opq k => rw [hd] at q; exact q.elim
end
end Tg

/-! Tg, part 24: for x in E: x.clear(). -/
namespace Tg
open PySem PySem.Spec PyProof.Rows L2

mutual
theorem D.kill_kill : ∀ d : D, d.kill.kill = d.kill
  | .non => by rw [D.kill, D.kill]
  | .bl b => by rw [D.kill, D.kill]
  | .int i => by rw [D.kill, D.kill]
  | .str s => by rw [D.kill, D.kill]
  | .scr ns => by rw [D.kill, D.kill]
  | .jnk => by rw [D.kill, D.kill]
  | .opq _ => by rw [D.kill, D.kill]
  | .lst ds => by rw [D.kill, D.kill]
  | .tup ds => by rw [D.kill, D.kill, D.killL_kill ds]
  | .exc c fs => by rw [D.kill, D.kill, D.killL_kill fs]
theorem D.killL_kill : ∀ ds : List D, D.killL (D.killL ds) = D.killL ds
  | [] => by rw [D.killL, D.killL]
  | d :: r => by rw [D.killL, D.killL, D.kill_kill d, D.killL_kill r]
end
theorem S.kill_kill (s : S) : s.kill.kill = s.kill := by
  cases s with
  | val d => exact congrArg S.val (D.kill_kill d)
  | own ds => exact congrArg S.own (D.killL_kill ds)
  | dct t kvs => rfl
  | sto _ _ => rfl
  | both _ _ => rfl
theorem killE_at (e : En) (i : Nat) : ∀ sl : List Nat, (killE sl e)[i]? = if i ∈ sl then (e[i]?).map (Option.map S.kill) else e[i]?
  | [] => by simp [killE]
  | j :: r => by
    have ih := killE_at e i r
    have next : (i ≠ j ∨ ∀ s0, e[j]? ≠ some (some s0)) → (killE r e)[i]? = if i ∈ j :: r then (e[i]?).map (Option.map S.kill) else e[i]? := fun hn => by
      rw [ih]
      by_cases c : i = j
      · subst c
        rcases hn with hn | hn
        · exact absurd rfl hn
        · rw [if_pos List.mem_cons_self]
          split
          · rfl
          · cases h : e[i]? with
            | none => rfl
            | some o =>
              cases o with
              | none => rfl
              | some s => exact absurd h (hn s)
      · have : (i ∈ j :: r) ↔ i ∈ r := ⟨fun z => (List.mem_cons.mp z).resolve_left c, fun z => List.mem_cons_of_mem _ z⟩
        simp only [this]
    unfold killE
    split
    · rename_i s0 he
      by_cases c : j = i
      · subst c
        have hl : j < (killE r e).length := by rw [killE_length]; exact (List.getElem?_eq_some_iff.mp he).1
        rw [List.getElem?_set_self hl, if_pos List.mem_cons_self, he]
        rfl
      · rw [List.getElem?_set_ne c]
        exact next (.inl fun z => c z.symm)
    · rename_i hn
      exact next (.inr fun s0 z => hn s0 z)
theorem killE_again (sl : List Nat) (e : En) (i : Nat) : killE sl ((killE sl e).set i none) = (killE sl e).set i none := by
  refine List.ext_getElem? fun j => ?_
  rw [killE_at]
  by_cases hj : i = j
  · subst hj
    by_cases hl : i < (killE sl e).length
    · rw [List.getElem?_set_self hl]
      split <;> rfl
    · rw [List.getElem?_eq_none (by rw [List.length_set]; omega)]
      split <;> rfl
  · rw [List.getElem?_set_ne hj, killE_at]
    split
    · cases e[j]? with
      | none => rfl
      | some o =>
        cases o with
        | none => rfl
        | some s =>
          show some (some s.kill.kill) = some (some s.kill)
          rw [S.kill_kill]
    · rfl
/-- ints, texts -/
def atomB : D → Bool
  | .int _ => true
  | .str _ => true
  | _ => false
/-- lists and (tp) tuples of ints and texts -/
def clr1 (tp : Bool) : D → Bool
  | .lst es => es.all atomB
  | .tup es => tp && es.all atomB
  | _ => false
def kFC (tp : Bool) (al sl : List Nat) (n i : Nat) (e : En) (s : S) : R Fl := if i < e.length ∧ e.length ≤ n then match s.d with
  | .lst ds => if ds.all (clr1 tp) = true then .ok (.nx ((killE sl (freeze al e)).set i none)) else .bad
  | _ => .bad
  else .bad
/-- for x in E: x.clear() (tp: where it is a list) -/
def sForClr (tp : Bool) (al sl : List Nat) (n i : Nat) (a : Ex) : Sx := fun e => (a e).bind (kFC tp al sl n i e)
/-- what the loop's body does to slot i's list -/
def ClrB (tp : Bool) (i : Nat) (tb : TS) : Prop := ∀ (D : Ends) (σ : L2.St) (H : Hp) (a : Addr), σ[i]? = some (some (.ref a)) →
  (((∃ ys, H a = some (.lst ys)) ∧ D.nx σ (upd H a (.lst []))) ∨ (tp = true ∧ (∃ ys, H a = some (.tup ys)) ∧ D.nx σ H)) → tb D σ H
theorem upd_id {H : Hp} {a : Addr} {o : HO} (h : H a = some o) : upd H a o = H := by
  funext b
  by_cases c : b = a
  · subst c; rw [upd_same, h]
  · rw [upd_ne c]
theorem atom_nl {T : Tkn} {K : PySem.W.Frag} {N : Addr → Prop} {H : Hp} {es : List D} {xs : List V} (h : es.all atomB = true) (r : RepL K N H es xs) {j : Nat} {a : Addr} : xs[j]? ≠ some (.ref a) := fun hx => by
  have hj : j < es.length := by rw [← r.length]; exact (List.getElem?_eq_some_iff.mp hx).1
  obtain ⟨v, h1, h2⟩ := r.get (List.getElem?_eq_getElem hj)
  rw [hx] at h1
  cases h1
  have h3 := List.all_eq_true.mp h _ (List.getElem_mem hj)
  cases he : es[j] with
  | int i => rw [he] at h2; cases h2
  | str s => rw [he] at h2; cases h2
  | _ => rw [he] at h3; cases h3
theorem ints_nl {T : Tkn} {K : PySem.W.Frag} {N : Addr → Prop} {H : Hp} {es : List D} {ns : List Int} {xs : List V} (h : D.ints es = some ns) (r : RepL K N H es xs) {j : Nat} {a : Addr} : xs[j]? ≠ some (.ref a) := atom_nl (by
  rw [ints_some h, List.all_eq_true]
  intro d hd
  obtain ⟨y, _, rfl⟩ := List.mem_map.mp hd
  rfl) r
section
variable {X : Cx} {W : Wi} {H0 : Hp} {Z0 : Addr → Prop} {lk : List Nat} {m : Ex} {l : List Nat} {x : Str} {iter : Expr} {body : List Stmt} {tb : TS} {tp pos : Pos}
theorem s_forClr (t : Bool) (p : Nat) (sl : List Nat) (n i : Nat) (hp : PassesOwn (model X.prog X.w) X.A X.env X.xe) (hc : X.calm = true) (ha : SE X W iter m l) (hbd : PSs X body tb) (hB : ClrB t i tb) (hN : X.N.Nodup) (hi : X.N[i]? = some x := by rfl) (hx : Loc X.env.scope x := by first | exact Or.inl rfl | exact Or.inr rfl)
    (hf : X.fn x = true ∨ X.env.scope.names.lookup x = some .local := by first | exact .inl rfl | exact .inr rfl) (hs : ∀ x, foldedSetIterable iter X.env x = pure x := by intro _; rfl)
    (hl : allg W.g p l = true := by rfl) (hn : lk.contains p = false := by rfl) (hp0 : (p != 0 && p != 99) = true := by rfl) (hsl : allIn W.g p n sl = true := by rfl) :
    SS X W H0 Z0 lk (.For (.Name x tp) iter body [] pos) (sForClr t l sl n i m) := by
  refine PS.imp (ps_for hp hc (pi_list ha) (pg_name hN hi hx hf) hbd hs) fun EE σ H ⟨T, Zl, Hb, e, ⟨s0, kp, Z, rt, h1, h2, r0⟩, q⟩ => ?_
  unfold sForClr at q
  refine tE_go r0 (fun d hd c o H' sm => by rw [hd] at q; exact (fun z9 => q c o σ H' (s0.trans sm) (z9.mo s0))) (fun hd => by rw [hd] at q; exact q) fun s v H1 hs sm r1 rs => ?_
  rw [hs, R.bind_ok] at q
  unfold kFC at q
  by_cases hlen : i < e.length ∧ e.length ≤ n
  case neg => rw [if_neg hlen] at q; exact q.elim
  rw [if_pos hlen] at q
  have hl := allg_of hl
  have hp' : p ≠ 0 ∧ p ≠ 99 := by simpa using hp0
  have hk' : p ∉ lk := by simpa using hn
  have r2 := r0.grow sm p l hl fun _ => False
  have rd : Rep X.K (NZ W.g Z e rt l H) H1 s.d v := rs.d fun a h => .inr (.inl h)
  have zs : ∀ a, NZ W.g Z e rt l H a → H1 a ≠ none → ZN p Z e rt l H H1 (fun _ => False) p a := fun a z h => zn_sub hl z (fun z => z) h
  have hsl' : ∀ (e' : En), e'.length = e.length → ∀ j s, e'[j]? = some (some s) → W.g j = p → j ∈ sl := fun e' he j s h hg => by
    refine allIn_of hsl ?_ hg
    have := (List.getElem?_eq_some_iff.mp h).1
    omega
  have zn : ∀ q a, ZN p Z e rt l H H1 (fun _ => False) q a → q = 99 ∨ Z0 a ∨ H0 a = none := fun q a z => by
    rcases z with z | ⟨_, ⟨z, _⟩ | z⟩
    · exact h2 q a z
    · exact .inr (.inr (s0.free z))
    · exact .inr (.inr (r0.root z).1)
  generalize hZ : ZN p Z e rt l H H1 (fun _ => False) = Z' at r2 zs zn
  have zl' : ∀ q a, Zl q a → q ∈ lk ∧ Z' q a := fun q a z => ⟨(h1 q a z).1, by rw [← hZ]; exact .inl (h1 q a z).2⟩
  cases hd : s.d with
  | lst ds =>
    rw [hd] at q rd
    by_cases hall : ds.all (clr1 t) = true
    case neg =>
      have q : Out X.K W H0 Z0 lk Zl Hb EE (if ds.all (clr1 t) = true then .ok (.nx ((killE sl (freeze l e)).set i none)) else .bad) := q
      rw [if_neg hall] at q
      exact q.elim
    have q : Out X.K W H0 Z0 lk Zl Hb EE (if ds.all (clr1 t) = true then .ok (.nx ((killE sl (freeze l e)).set i none)) else .bad) := q
    rw [if_pos hall] at q
    obtain ⟨a0, xs, rfl, ⟨n1, n2⟩, rr⟩ := rd
    have za0 := zs a0 n1 (by rw [n2]; exact nofun)
    refine ⟨a0, rfl, ⟨xs, .inl (.inl n2)⟩, ?_⟩
    -- each thing: a list of the group, not the walked one; or a tuple
    have items : ∀ (j : Nat) (y : V), xs[j]? = some y → ∃ a, y = .ref a ∧ ((a ≠ a0 ∧ Z' p a ∧ ∃ ys, H1 a = some (.lst ys)) ∨ (t = true ∧ ∃ ys, H1 a = some (.tup ys))) := fun j y hy => by
      have hj : j < ds.length := by rw [← rr.length]; exact (List.getElem?_eq_some_iff.mp hy).1
      obtain ⟨v, g1, g2⟩ := rr.get (List.getElem?_eq_getElem hj)
      rw [hy] at g1
      cases g1
      have c1 := List.all_eq_true.mp hall _ (List.getElem_mem hj)
      cases hdj : ds[j] with
      | lst es =>
        rw [hdj] at c1 g2
        obtain ⟨a, ys, rfl, ⟨m1, m2⟩, m3⟩ := g2
        have hz : es.all atomB = true := c1
        refine ⟨a, rfl, .inl ⟨fun c => ?_, zs a m1 (by rw [m2]; exact nofun), ys, m2⟩⟩
        subst c
        rw [n2] at m2
        cases m2
        exact atom_nl hz m3 hy
      | tup es =>
        rw [hdj] at c1 g2
        obtain ⟨a, ys, rfl, m2, _⟩ := g2
        have c1' : (t && es.all atomB) = true := c1
        rw [Bool.and_eq_true] at c1'
        exact ⟨a, rfl, .inr ⟨c1'.1, ys, m2⟩⟩
      | non => rw [hdj] at c1; cases c1
      | bl _ => rw [hdj] at c1; cases c1
      | int _ => rw [hdj] at c1; cases c1
      | str _ => rw [hdj] at c1; cases c1
      | scr _ => rw [hdj] at c1; cases c1
      | exc _ _ => rw [hdj] at c1; cases c1
      | jnk => rw [hdj] at c1; cases c1
      | opq _ => rw [hdj] at c1; cases c1
    let es : En := (killE sl (freeze l e)).set i none
    have hes : es.length = e.length := by show ((killE sl (freeze l e)).set i none).length = _; rw [List.length_set, killE_length, freeze_length]
    have again : killE sl es = es := killE_again sl (freeze l e) i
    -- the state of a turn
    let J : L2.St → Hp → Prop := fun σ H2 => Same H0 H2 ∧ KT (fun a => ∃ p, Zl p a) Hb T H2 ∧ Rel X.K (fun a => H0 a = none) W.g Z' rt es σ H2 ∧ H2 a0 = some (.lst xs) ∧ ∀ (j : Nat) (y : V), xs[j]? = some y → ∃ a, y = .ref a ∧ ((a ≠ a0 ∧ Z' p a ∧ ∃ ys, H2 a = some (.lst ys)) ∨ (t = true ∧ ∃ ys, H2 a = some (.tup ys)))
    have start : J σ H1 := by
      refine ⟨s0.trans sm, kp.trans (same_kp sm), ?_, n2, items⟩
      have k := r2.killW (ys := xs) za0 n2 (sl := sl) (hsl' _ (by rw [freeze_length]))
      rw [upd_id n2] at k
      have k2 := k.setNone i (σ[i]?.getD none)
      rw [show σ.set i (σ[i]?.getD none) = σ from ?_] at k2
      · exact k2
      · refine List.ext_getElem? fun j => ?_
        by_cases hj : i = j
        · subst hj
          cases h : σ[i]? with
          | none => rw [List.getElem?_eq_none (by rw [List.length_set]; exact List.getElem?_eq_none_iff.mp h)]
          | some o => rw [List.getElem?_set_self (List.getElem?_eq_some_iff.mp h).1]; rfl
        · rw [List.getElem?_set_ne hj]
    have at_ : ∀ {H2 : Hp}, H2 a0 = some (.lst xs) → SqL X.K H2 a0 xs := fun k => .inl (.inl k)
    refine ⟨fun k m σ H2 => m = xs.length - k ∧ k ≤ xs.length ∧ J σ H2, ⟨xs.length, by simp, Nat.zero_le _, start⟩, ?_⟩
    rintro k m σ2 H2 ⟨rfl, hk, j1, j2, j3, j4, j5⟩
    by_cases hlt : k < xs.length
    · refine .inr ⟨⟨xs, xs[k], at_ j4, List.getElem?_eq_getElem hlt⟩, J, fun σ' H' h' => ⟨xs.length - (k + 1), by omega, rfl, hlt, h'⟩, fun y H3 ⟨e3, hy⟩ => ?_⟩
      subst e3
      have hy := hy xs (at_ j4)
      obtain ⟨a, rfl, ha⟩ := j5 k y hy
      have il : i < σ2.length := by rw [← j3.len, hes]; exact hlen.1
      have j3' : Rel X.K (fun a => H0 a = none) W.g Z' rt es (σ2.set i (some (.ref a))) H3 := by
        have := j3.setNone i (some (.ref a))
        rwa [show es.set i none = es from List.set_set ..] at this
      refine hB _ _ _ a (List.getElem?_set_self il) ?_
      rcases ha with ⟨ne, za, ys, hys⟩ | ⟨ht, ys, hys⟩
      · refine .inl ⟨⟨ys, hys⟩, ?_⟩
        have r5 := j3'.killW (ys := []) za hys (sl := sl) (hsl' _ hes)
        rw [again] at r5
        refine ⟨fun b u z => ?_, ?_, r5, ?_, ?_⟩
        · have young : H0 a = none := j3.nw p a hp'.1 hp'.2 za
          rw [upd_ne fun w => by subst w; rw [young] at z; cases z]
          exact j1 _ _ z
        · refine j2.trans ⟨fun b zs ⟨q, z⟩ w => ?_, still_lst hys⟩
          have := zl' q b z
          rw [upd_ne fun y => by subst y; exact hk' (by rw [← j3.dj q p b this.2 za]; exact this.1)]
          exact w
        · rw [upd_ne fun z => ne z.symm]; exact j4
        · intro j y hj
          obtain ⟨b, rfl, hb⟩ := j5 j y hj
          refine ⟨b, rfl, ?_⟩
          rcases hb with ⟨nb, zb, us, hus⟩ | ⟨ht, us, hus⟩
          · refine .inl ⟨nb, zb, ?_⟩
            by_cases c : b = a
            · subst c; exact ⟨[], upd_same⟩
            · rw [upd_ne c]; exact ⟨us, hus⟩
          · refine .inr ⟨ht, us, ?_⟩
            rw [upd_ne fun c => by subst c; rw [hys] at hus; cases hus]
            exact hus
      · exact .inr ⟨ht, ⟨ys, hys⟩, j1, j2, j3', j4, j5⟩
    · have ek : k = xs.length := by omega
      refine .inl ⟨⟨xs, at_ j4, by omega⟩, ?_⟩
      exact @q T GrT.refl σ2 H2 ⟨j1, j2, Z', rt, zl', zn, j3⟩
  | non => rw [hd] at q; exact q.elim
  | bl b => rw [hd] at q; exact q.elim
  | int i => rw [hd] at q; exact q.elim
  | str t => rw [hd] at q; exact q.elim
  | tup ds => rw [hd] at q; exact q.elim
  | scr ns => rw [hd] at q; exact q.elim
  | exc c fs => rw [hd] at q; exact q.elim
  | jnk => rw [hd] at q; exact q.elim
  | opq _ => rw [hd] at q; exact q.elim
theorem clrB_clear (i : Nat) {K : PySem.W.Frag} : ClrB false i (tDrop (tBM0 K "list" rClear (tVar i))) := fun D σ H a hi h => by
  rcases h with ⟨⟨ys, hy⟩, q⟩ | ⟨z, _⟩
  · exact ⟨.ref a, hi, .inl ⟨rfl, ys, .inl (.inl hy)⟩, a, ys, rfl, rfl, hy, q⟩
  · cases z
/-- for x in E: x.clear() -/
theorem s_forClrL {p2 apos cpos epos : Pos} (p : Nat) (sl : List Nat) (n i : Nat) (hp : PassesOwn (model X.prog X.w) X.A X.env X.xe) (hc : X.calm = true) (ha : SE X W iter m l) (hN : X.N.Nodup) (hi : X.N[i]? = some x := by rfl) (hx : Loc X.env.scope x := by first | exact Or.inl rfl | exact Or.inr rfl)
    (hv : Vis X.env.scope x := by first | exact Or.inl rfl | exact Or.inr (Or.inl rfl) | exact Or.inr (Or.inr rfl)) (hd : (x == ("__debug__" : Str)) = false := by decide) (hcd : (x == ("__classdict__" : Str)) = false := by decide)
    (hbase : attributeBase (.Name x p2) "clear" X.env (eval (.Name x p2) X.env) = eval (.Name x p2) X.env := by rfl) (hline : (apos.endLine == cpos.line) = true := by rfl)
    (hsw : swapsWith (.Call (.Attribute (.Name x p2) "clear" apos) [] [] cpos) none epos.line X.env = pure false := by rfl)
    (hf : X.fn x = true ∨ X.env.scope.names.lookup x = some .local := by first | exact .inl rfl | exact .inr rfl) (hs : ∀ x, foldedSetIterable iter X.env x = pure x := by intro _; rfl)
    (hl : allg W.g p l = true := by rfl) (hn : lk.contains p = false := by rfl) (hp0 : (p != 0 && p != 99) = true := by rfl) (hsl : allIn W.g p n sl = true := by rfl) :
    SS X W H0 Z0 lk (.For (.Name x tp) iter [.Expr (.Call (.Attribute (.Name x p2) "clear" apos) [] [] cpos) epos] [] pos) (sForClr false l sl n i m) :=
  s_forClr false p sl n i hp hc ha (pss_one (ps_expr (pe_bm0 PySem.F.plainAttrs_list PySem.F.slot_list_clear PySem.F.type_list_clear mt_clear (pe_var hi hv hd hcd) hbase hline) hsw)) (clrB_clear i) hN hi hx hf hs hl hn hp0 hsl
/-- x = e, of which nothing is known if it bears lists -/
def kSW (i : Nat) (e : En) (s : S) : R Fl := if s.flat = true then .ok (.nx (e.set i (some s))) else .ok (.nx (e.set i none))
def sSetW (i : Nat) (m : Ex) : Sx := fun e => (m e).bind (kSW i e)
theorem s_setW {a : Expr} {p : Pos} (i : Nat) (hN : X.N.Nodup) (he : SE X W a m l) (hi : X.N[i]? = some x := by rfl) (hx : Loc X.env.scope x := by first | exact Or.inl rfl | exact Or.inr rfl) (hs : swapsWith a (some (.Name x p)) pos.line X.env = pure false := by rfl) (hf : X.fn x = true ∨ X.env.scope.names.lookup x = some .local := by first | exact .inl rfl | exact .inr rfl | assumption) :
    SS X W H0 Z0 lk (.Assign [.Name x p] a pos) (sSetW i m) := PS.imp (ps_set hN hi hx he hs hf) fun D σ H q => by
  obtain ⟨T, Zl, Hb, e, ⟨s0, kp, Z, rt, h1, h2, r⟩, q⟩ := q
  unfold sSetW at q
  refine tE_go r (fun d hd c o H' sm => by rw [hd] at q; exact (fun z9 => q c o σ H' (s0.trans sm) (z9.mo s0))) (fun hd => by rw [hd] at q; exact q) fun s x H1 hs sm r1 rs => ?_
  rw [hs, R.bind_ok] at q
  unfold kSW at q
  by_cases hfl : s.flat = true
  · rw [if_pos hfl] at q
    have rs' : RepS X.K (NZ W.g Z e rt [] H) H H1 s x := by
      cases s with
      | val d => exact Rep.flat (Still.refl _) d x hfl rs
      | own ds =>
        obtain ⟨r, xs, e, h1, h2, h3⟩ := rs
        exact ⟨r, xs, e, h1, h2, RepL.flat (Still.refl _) ds xs hfl h3⟩
      | dct t kvs => exact rs.elim
      | sto _ _ => exact rs.elim
      | both _ _ => exact absurd hfl (by simp [S.flat])
    obtain ⟨Z', rt', z1, z2, r'⟩ := r.put sm rs' i (fun _ h => nomatch h)
    rw [show keep [] s.flat e = e from keep_nil _ _] at r'
    exact q _ H1 (.new s0 kp sm (up1 h1 z1) (up2 h2 z2) r')
  · rw [if_neg hfl] at q
    exact q _ H1 (.new s0 kp sm h1 h2 (r1.setNone i (some x)))
/-- for x in E: if isinstance(x, list): x.clear() -/
theorem s_forClrI {p2 apos cpos epos q1 q2 q3 q4 ipos : Pos} (p : Nat) (sl : List Nat) (n i : Nat) (hm1 : X.mg "isinstance" = none) (hm2 : X.mg "list" = none) (hp : PassesOwn (model X.prog X.w) X.A X.env X.xe) (hc : X.calm = true) (ha : SE X W iter m l) (hN : X.N.Nodup) (hi : X.N[i]? = some x := by rfl) (hx : Loc X.env.scope x := by first | exact Or.inl rfl | exact Or.inr rfl)
    (hv : Vis X.env.scope x := by first | exact Or.inl rfl | exact Or.inr (Or.inl rfl) | exact Or.inr (Or.inr rfl)) (hd : (x == ("__debug__" : Str)) = false := by decide) (hcd : (x == ("__classdict__" : Str)) = false := by decide)
    (hg1 : Gl X "isinstance" := by rfl) (hg2 : Gl X "list" := by rfl)
    (he : starEach [.Name x q1, .Name "list" q2] X.env = (false, eval (.Name x q1) X.env) :: starEach [.Name "list" q2] X.env := by rfl) (he2 : starEach [.Name "list" q2] X.env = (false, eval (.Name "list" q2) X.env) :: starEach [] X.env := by rfl) (hpl : (backTo q4 (starEach [.Name "list" q2] X.env)).any (·.1) = false := by rfl)
    (ht : ∀ whole, isTrue (.Call (.Name "isinstance" q3) [.Name x q1, .Name "list" q2] [] q4) X.env whole = (do let v ← whole; standAt (Expr.Call (.Name "isinstance" q3) [.Name x q1, .Name "list" q2] [] q4).pos; holding [v] (truthy v)) := by intro _; rfl)
    (hbase : attributeBase (.Name x p2) "clear" X.env (eval (.Name x p2) X.env) = eval (.Name x p2) X.env := by rfl) (hline : (apos.endLine == cpos.line) = true := by rfl)
    (hsw : swapsWith (.Call (.Attribute (.Name x p2) "clear" apos) [] [] cpos) none epos.line X.env = pure false := by rfl)
    (hf : X.fn x = true ∨ X.env.scope.names.lookup x = some .local := by first | exact .inl rfl | exact .inr rfl) (hs : ∀ x, foldedSetIterable iter X.env x = pure x := by intro _; rfl)
    (hl : allg W.g p l = true := by rfl) (hn : lk.contains p = false := by rfl) (hp0 : (p != 0 && p != 99) = true := by rfl) (hsl : allIn W.g p n sl = true := by rfl) :
    SS X W H0 Z0 lk (.For (.Name x tp) iter [.If (.Call (.Name "isinstance" q3) [.Name x q1, .Name "list" q2] [] q4) [.Expr (.Call (.Attribute (.Name x p2) "clear" apos) [] [] cpos) epos] [] ipos] [] pos) (sForClr true l sl n i m) := by
  refine s_forClr true p sl n i hp hc ha (pss_one (ps_if (pt_val (pe_callB call_isi hg1 hm1 (by decide +kernel) (pa_cons (pe_var hi hv hd hcd) (pa_cons (pe_bltn (v := .ty "list") hg2 hm2 PyProof.Rows.Boot.«list» rfl (by decide) (by decide)) pa_nil he2) he) (by decide) (by decide) he hpl) ht) (pss_one (ps_expr (pe_bm0 PySem.F.plainAttrs_list PySem.F.slot_list_clear PySem.F.type_list_clear mt_clear (pe_var hi hv hd hcd) hbase hline) hsw)) pss_nil)) ?_ hN hi hx hf hs hl hn hp0 hsl
  intro D σ H a hi h
  rcases h with ⟨⟨ys, hy⟩, q⟩ | ⟨_, ⟨ys, hy⟩, q⟩
  · exact ⟨.ref a, hi, .ref a, .ty "list", .type "list", .type "list", true, rfl, .ty "list", .base (.lst hy), kit_ty rfl, true, rfl, .ref a, hi, .inl ⟨rfl, ys, .inl (.inl hy)⟩, a, ys, rfl, rfl, hy, q⟩
  · exact ⟨.ref a, hi, .ref a, .ty "list", .type "tuple", .type "list", false, rfl, .ty "list", .base (.tup hy), kit_ty rfl, false, rfl, q⟩
end
end Tg

/-! Tg, part 25: raise C(x), C an own exception class whose __init__ keeps x in a field. -/
namespace Tg
open PySem PySem.Spec PyProof.Rows L2

section
variable {X : Cx} {e : Expr} {es : List Expr} {ta : TA} {p p1 p2 pos : Pos}
/-- B.__init__(self, ..), B an own class over ValueError without an own __init__ -/
theorem pe_einit {x : Str} {R : Addr} {pl : Sem Bool} (hg : Gl X x) (hm : X.mg x = some (.ref R)) (gg : PySem.W.specialIn X.K (.ref R) "__getattribute__" = some (some (.builtin "type.__getattribute__"))) (rd : PySem.W.readsIn X.K R (.type "type") = true)
    (vV : PySem.W.findCls X.K (.ref R) (.type "type") "__init__" = some (.val (.builtin "ValueError.__init__"))) (ha : PA X (e :: es) ta) (hdb : (x == ("__debug__" : Str)) = false := by decide)
    (hc : eval (.Call (.Attribute (.Name x p1) "__init__" p2) (e :: es) [] pos) X.env = (do
      let ov ← eval (.Name x p1) X.env
      standAt p2.atName
      let (f, first) ← holding [ov] (getMethod ov "__init__" pl)
      callWith pos f first (backTo pos (starEach (e :: es) X.env)) (backToKw pos (keywordEach [] X.env))) := by rfl)
    (he : starEach (e :: es) X.env = (false, eval e X.env) :: starEach es X.env := by rfl) (hpl : (backTo pos (starEach es X.env)).any (·.1) = false := by rfl) :
    PE X (.Call (.Attribute (.Name x p1) "__init__" p2) (e :: es) [] pos) (tVeI X.K ta) := by
  refine ⟨fun pins s σ H Q I h => ?_⟩
  refine PySem.W.methodCall_KW (ld_glob I hg hm ?_ hdb) hc
  refine PySem.W.method_cls I.kIn gg (PySem.W.cls_value I.kIn rd vV (by decide +kernel) ?_)
  show wpAny _ _ (callWith pos (Value.builtin "ValueError.__init__") [] (backTo pos (starEach (e :: es) X.env)) []) _ _ _
  refine PyProof.Rows.callWith_method1 (thn (ha.run pos pins _ σ H _ (I.tok _) h) fun us s1 ⟨vs, H1, I1, r1, a, C, ws, ev, hl, T, ea, q⟩ => ?_) he hpl
  subst ev
  cases r1 with
  | @cons _ u0 _ ur ra rw' =>
    obtain rfl : u0 = Value.ref a := ra
    have hlen : ur.length ≤ sizeLine := by
      rw [← Paired.length rw', sizeLine_eq]
      omega
    exact oinit_ok T I1 ea hlen fun s' J => ⟨.non, H1, J, rfl, q⟩
end
/-- what an __init__ that keeps its argument in the field f promises -/
def spInit (K : PySem.W.Frag) (C : Addr) (f : Str) : Sp := fun vs H Q _ => ∃ (a : Addr) (y : V), vs = [.ref a, y] ∧ H a = some (exo a C none) ∧ OexC K C ∧ PySem.W.findIn K (.ref C) f = some none ∧ ∀ dx, H dx = none → dx ≠ a → Q .non (upd (upd H dx (exd dx [(f, y)])) a (exo a C (some dx)))
/-- an own exception class with a field, as raise wants it -/
structure ExcF (P : Program) (w : World) (K : PySem.W.Frag) (mg : Str → Option Value) (base : Heap) (nm f : String) (lev : Nat) : Prop where
  ex : ∃ (C fI : Addr) (fd : FuncData) (ps : List Str), mg (Str.ofString nm) = some (.ref C) ∧ PySem.W.nsIn K mainGlobals (Str.ofString nm) = some (some (.ref C)) ∧ OexC K C ∧ PySem.W.findIn K (.ref C) "__init__" = some (some (.ref fI)) ∧ PySem.W.typeIn K (.ref fI) = some (.type "function") ∧
    FnOk P w K mg base (L2.CX P w) lev fI fd ps (spInit K C (Str.ofString f)) ∧ Binds K fd ps [] ∧ PySem.W.findIn K (.ref C) (Str.ofString f) = some none
section
variable {P : Program} {w : World} {K : PySem.W.Frag} {mg : Str → Option Value} {base : Heap}
theorem init_fn {qual : Str} {st : Stmt} {fI C : Addr} {fd : FuncData} {f s : Str} {k : Nat} {m : V} (F : Fun K "__init__" qual st fI fd) (Sc : FnScope [s, f] [s, f] (defScope st))
    (hb : ∀ (cdv : Value) (A : Around) (outer : List Env) (sh : Shared) (H : Hp) (E : XK), Room k (A.deeper (envOfC qual (defScope st) sh.heap.objs.size fI cdv)) →
      PSs (cxOf (L2.CX P w) P w K mg base [s, f] qual (defScope st) fI cdv A outer sh H E) (defBody st) (fun D σ H => tVeI K (L2.tCons (L2.tVar 0) (L2.tCons (L2.tC m) L2.tNil)) σ H fun _ H1 => tOst K f (L2.tVar 0) (L2.tVar 1) D σ H1)) :
    FnOk P w K mg base (L2.CX P w) (k + 1) fI fd [s, f] (spInit K C f) := by
  refine F.okX Sc (fun vs H Q E ⟨_, _, e, _⟩ => by rw [e]; rfl) fun cdv A outer sh H vs Q E hr ⟨a, y, e, ha, T, hf, q⟩ => ⟨_, hb cdv A outer sh H E hr, ?_⟩
  subst e
  exact ⟨.ref a, rfl, a, C, [m], rfl, by simp, T, ha, y, rfl, .ref a, rfl, a, C, rfl, T, hf, .inl ⟨ha, q⟩⟩
end
/-- raise C(x) -/
def sRaiseF (nm : String) (m : Ex) : Sx := fun e => (m e).bind fun _ => .ex (.exc nm [])
section
variable {X : Cx} {W : Wi} {H0 : Hp} {Z0 : Addr → Prop} {lk : List Nat} {a : Expr} {m : Ex} {l : List Nat}
theorem s_raiseF {nm f : String} {lev : Nat} {x : Str} {p pos pos2 : Pos} (E : ExcF X.prog X.w X.K X.mg X.base nm f lev) {k : Nat} (hr : Room k X.A) (hk : lev + 1 ≤ k) (hc : X.calm = true) (tk : Takes X W.w) (ha : SE X W a m l) (hxr : ∀ H0 d c o H, XR X.K H0 d c o H → W.xr H0 d c o H) (hn : x = Str.ofString nm := by rfl) (hg : Gl X x := by rfl)
    (hdb : (x == ("__debug__" : Str)) = false := by decide) (he : starEach [a] X.env = (false, eval a X.env) :: starEach [] X.env := by rfl) (hpl : (backTo pos (starEach [] X.env)).any (·.1) = false := by rfl) :
    SS X W H0 Z0 lk (.Raise (some (.Call (.Name x p) [a] [] pos)) none pos2) (sRaiseF nm m) := by
  subst hn
  obtain ⟨C, fI, fd, ps, hm, hns, TO, iC, tI, F1, hb, hno⟩ := E.ex
  refine PS.imp (ps_raise hc tk (pmk_oex TO iC tI F1 (hr.mono hk) hb .nil (fun _ _ _ _ _ _ _ ⟨_, _, _, _, _, _, _, _, _, _, _, _, z⟩ => z.elim) hg hm (pa_cons ha pa_nil he) hdb he hpl)) fun D σ H ⟨T, Zl, Hb, e, ⟨s0, kp, Z, rt, h1, h2, r⟩, q⟩ => ?_
  unfold sRaiseF at q
  refine tE_go r (fun d hd c o H' sm => by rw [hd] at q; exact (fun z9 => q c o σ H' (s0.trans sm) (z9.mo s0))) (fun hd => by rw [hd] at q; exact q) fun s y H1 hs sm r1 rs => ?_
  rw [hs, R.bind_ok] at q
  refine ⟨by simp, fun a na => ⟨a, y, rfl, upd_same, TO, hno, fun dx hdx hne => ⟨rfl, dx, [(Str.ofString f, y)], upd_same, ?_, ?_, ?_⟩⟩⟩
  · rw [upd_ne hne]; exact upd_same
  · rw [upd_ne hne] at hdx; exact hdx
  · have hdx1 : H1 dx = none := by rw [upd_ne hne] at hdx; exact hdx
    refine q (.ref C) (some dx) σ _ (fun b u hb => ?_) ⟨H0, Same.refl _, hxr _ _ _ _ _ ⟨⟨C, rfl, hns⟩, .inl ⟨rfl, .inr ⟨dx, _, rfl, upd_same⟩⟩⟩⟩
    have h3 := (s0.trans sm) _ _ hb
    have nb : b ≠ a := fun z => by rw [z, na] at h3; cases h3
    have nd : b ≠ dx := fun z => by rw [z, hdx1] at h3; cases h3
    rw [upd_ne nd, del_ne nb, upd_ne nb, upd_ne nd, upd_ne nb]
    exact h3
end
/-- raise C(x), x kept -/
def sRaiseG (nm : String) (m : Ex) : Sx := fun e => (m e).bind fun s => if s.d.tf = true then .ex (.exc nm [s.d]) else .bad
section
variable {X : Cx} {W : Wi} {H0 : Hp} {Z0 : Addr → Prop} {lk : List Nat} {a : Expr} {m : Ex} {l : List Nat}
theorem s_raiseG {nm f : String} {lev : Nat} {x : Str} {p pos pos2 : Pos} (E : ExcF X.prog X.w X.K X.mg X.base nm f lev) {k : Nat} (hr : Room k X.A) (hk : lev + 1 ≤ k) (hc : X.calm = true) (tk : Takes X W.w) (ha : SE X W a m l) (hxr : ∀ H0 d c o H, XR X.K H0 d c o H → W.xr H0 d c o H) (hn : x = Str.ofString nm := by rfl) (hg : Gl X x := by rfl)
    (hdb : (x == ("__debug__" : Str)) = false := by decide) (he : starEach [a] X.env = (false, eval a X.env) :: starEach [] X.env := by rfl) (hpl : (backTo pos (starEach [] X.env)).any (·.1) = false := by rfl) (hl : l.all (fun j => W.g j != 0 && W.g j != 99) = true := by rfl) (hfn : fnames nm = [Str.ofString f] := by rfl) :
    SS X W H0 Z0 lk (.Raise (some (.Call (.Name x p) [a] [] pos)) none pos2) (sRaiseG nm m) := by
  subst hn
  obtain ⟨C, fI, fd, ps, hm, hns, TO, iC, tI, F1, hb, hno⟩ := E.ex
  refine PS.imp (ps_raise hc tk (pmk_oex TO iC tI F1 (hr.mono hk) hb .nil (fun _ _ _ _ _ _ _ ⟨_, _, _, _, _, _, _, _, _, _, _, _, z⟩ => z.elim) hg hm (pa_cons ha pa_nil he) hdb he hpl)) fun D σ H ⟨T, Zl, Hb, e, ⟨s0, kp, Z, rt, h1, h2, r⟩, q⟩ => ?_
  unfold sRaiseG at q
  refine tE_go r (fun d hd c o H' sm => by rw [hd] at q; exact (fun z9 => q c o σ H' (s0.trans sm) (z9.mo s0))) (fun hd => by rw [hd] at q; exact q) fun s y H1 hs sm r1 rs => ?_
  rw [hs, R.bind_ok] at q
  by_cases htf : s.d.tf = true
  case neg => rw [if_neg htf] at q; exact q.elim
  rw [if_pos htf] at q
  refine ⟨by simp, fun a na => ⟨a, y, rfl, upd_same, TO, hno, fun dx hdx hne => ⟨rfl, dx, [(Str.ofString f, y)], upd_same, ?_, ?_, ?_⟩⟩⟩
  · rw [upd_ne hne]; exact upd_same
  · rw [upd_ne hne] at hdx; exact hdx
  · have hdx1 : H1 dx = none := by rw [upd_ne hne] at hdx; exact hdx
    have last : Same H1 (upd (del (upd (upd (upd H1 a (exo a C none)) dx (exd dx [(Str.ofString f, y)])) a (exo a C (some dx))) a) dx (.xd [(Str.ofString f, y)])) := fun b u h3 => by
      have nb : b ≠ a := fun z => by rw [z, na] at h3; cases h3
      have nd : b ≠ dx := fun z => by rw [z, hdx1] at h3; cases h3
      rw [upd_ne nd, del_ne nb, upd_ne nb, upd_ne nd, upd_ne nb]
      exact h3
    have fresh : ∀ b, NZ W.g Z e rt l H b → H0 b = none := fun b z => by
      rcases z with ⟨i, hi, z⟩ | z | z
      · exact (by simpa using List.all_eq_true.mp hl i hi : W.g i ≠ 0 ∧ W.g i ≠ 99).elim fun g1 g2 => r.nw _ b g1 g2 z
      · exact s0.free z
      · exact (r.root z).1
    have rd : Rep X.K (fun b => H0 b = none) H1 s.d y := (rs.d (N := NZ W.g Z e rt l H) fun b z => .inr (.inl z)).mono fresh
    refine q (.ref C) (some dx) σ _ (fun b u hb => last b u ((s0.trans sm) _ _ hb)) ⟨H0, Same.refl _, hxr _ _ _ _ _ ⟨⟨C, rfl, hns⟩, .inr ⟨List.cons_ne_nil _ _, dx, [y], rfl, ?_, RepL.one (Rep.tf _ _ htf (rd.same last))⟩⟩⟩
    rw [hfn]
    exact upd_same
end
section
variable {X : Cx} {b s f msg : Str} {j : Nat} {p1 p2 q1 q2 q3 q4 q5 q6 q7 q8 : Pos} {R : Addr} {pl : Sem Bool}
/-- B.__init__(self, "..") and self.f = f -/
theorem init_body (hm : X.mg b = some (.ref R)) (gg : PySem.W.specialIn X.K (.ref R) "__getattribute__" = some (some (.builtin "type.__getattribute__"))) (rd : PySem.W.readsIn X.K R (.type "type") = true)
    (vV : PySem.W.findCls X.K (.ref R) (.type "type") "__init__" = some (.val (.builtin "ValueError.__init__"))) (hN : X.N = [s, f] := by rfl) (hg : Gl X b := by rfl) (hvs : Vis X.env.scope s := by exact Or.inl rfl) (hvf : Vis X.env.scope f := by exact Or.inl rfl)
    (hds : (s == ("__debug__" : Str)) = false := by decide) (hcs : (s == ("__classdict__" : Str)) = false := by decide) (hdf : (f == ("__debug__" : Str)) = false := by decide) (hcf : (f == ("__classdict__" : Str)) = false := by decide) (hdb : (b == ("__debug__" : Str)) = false := by decide)
    (hc : eval (.Call (.Attribute (.Name b p1) "__init__" p2) [.Name s q1, .Constant (.str msg) j q2] [] q3) X.env = (do
      let ov ← eval (.Name b p1) X.env
      standAt p2.atName
      let (f, first) ← holding [ov] (getMethod ov "__init__" pl)
      callWith q3 f first (backTo q3 (starEach [.Name s q1, .Constant (.str msg) j q2] X.env)) (backToKw q3 (keywordEach [] X.env))) := by rfl)
    (he : starEach [.Name s q1, .Constant (.str msg) j q2] X.env = (false, eval (.Name s q1) X.env) :: starEach [.Constant (.str msg) j q2] X.env := by rfl) (he2 : starEach [.Constant (.str msg) j q2] X.env = (false, eval (.Constant (.str msg) j q2) X.env) :: starEach [] X.env := by rfl)
    (hpl : (backTo q3 (starEach [.Constant (.str msg) j q2] X.env)).any (·.1) = false := by rfl)
    (hsw : swapsWith (.Call (.Attribute (.Name b p1) "__init__" p2) [.Name s q1, .Constant (.str msg) j q2] [] q3) none q4.line X.env = pure false := by rfl) (hsw2 : swapsWith (.Name f q7) (some (.Attribute (.Name s q5) f q6)) q8.line X.env = pure false := by rfl) :
    PSs X [.Expr (.Call (.Attribute (.Name b p1) "__init__" p2) [.Name s q1, .Constant (.str msg) j q2] [] q3) q4, .Assign [.Attribute (.Name s q5) f q6] (.Name f q7) q8]
      (fun D σ H => tVeI X.K (L2.tCons (L2.tVar 0) (L2.tCons (L2.tC (.str msg)) L2.tNil)) σ H fun _ H1 => tOst X.K f (L2.tVar 0) (L2.tVar 1) D σ H1) := by
  have h0 : X.N[0]? = some s := by rw [hN]; rfl
  have h1 : X.N[1]? = some f := by rw [hN]; rfl
  exact PSs.imp (pss_cons (ps_expr (pe_einit hg hm gg rd vV (pa_cons (pe_var h0 hvs hds hcs) (pa_cons pe_str pa_nil he2) he) hdb hc he hpl) hsw) (pss_one (ps_ost (pe_var h0 hvs hds hcs) (pe_var h1 hvf hdf hcf) hsw2))) fun D σ H q => q
end
/-- a class in the written part, by its name -/
structure ExcN (K : PySem.W.Frag) (nm : String) (C : Addr) : Prop where
  ns : PySem.W.nsIn K mainGlobals (Str.ofString nm) = some (some (.ref C))
/-- the statements of a class -/
abbrev clsS (st : Stmt) (j : Nat) : Stmt := match st with
  | .ClassDef _ _ _ body _ _ _ _ _ _ _ => body.getD j (.Pass ⟨0, 0, 0, 0⟩)
  | _ => .Pass ⟨0, 0, 0, 0⟩
end Tg

/-! Tg, part 26: e.f, e a caught exception with a field. -/
namespace Tg
open PySem PySem.Spec PyProof.Rows L2

/-- the reading: an exception that is tracked -/
def tXfT (K : PySem.W.Frag) (f : Str) (te : TE) : TE := fun σ H Q => te σ H fun x H1 => ∃ (a C dd : Addr) (fs : List (Str × V)) (v : V), x = .ref a ∧ H1 a = some (ExT (.ref C) (some dd) a) ∧ XfC K C ∧ PySem.W.findIn K (.ref C) f = some none ∧ H1 dd = some (.xd fs) ∧ fs.lookup f = some v ∧ Q v H1
theorem pe_xfT {X : Cx} {e : Expr} {te : TE} {pos : Pos} {n : Str} (he : PE X e te) (hb : attributeBase e n X.env (eval e X.env) = eval e X.env := by rfl) : PE X (.Attribute e n pos) (tXfT X.K n te) := by
  refine ⟨fun pins s σ H Q I h => ?_⟩
  refine attr_of hb (thn (he.run pins s σ H _ I h) fun u s1 hh => ?_)
  obtain ⟨x, H1, I1, rx, a, C, dd, fs, v, ex, ha, T, hno, ea, l, q⟩ := hh
  subst ex
  obtain rfl : u = Value.ref a := rx
  obtain ⟨⟨oe, vs, hget, hz, hd⟩, _⟩ := (show ObjOk X.prog X.w H1 s1.heap a (ExT (.ref C) (some dd) a) from I1.hok a _ ha)
  have hx : ObjOk X.prog X.w H1 s1.heap dd (.xd fs) := I1.hok dd _ ea
  obtain ⟨mA, hns, hr⟩ := hx
  obtain ⟨od, ho, hl⟩ := lookIn_ns hns
  obtain ⟨u, hu, ru⟩ := RelO.some_of (v := v) (o := mA n) (by rw [← l]; exact hr n)
  have J : PySem.W.InstAt s1.heap a oe C (some od) := ⟨hget, hz.1, by unfold PySem.W.notCls; rw [hd] <;> rfl, by rw [hz.2]; exact ho⟩
  exact HandSPX.exc_get I1.kIn J T.ga T.gg T.exC (PySem.W.findObj_own T.hdC hno rfl (by rw [hl, hu])) (handed_of ru) ⟨v, H1, I1.tok _, ru, q⟩
/-- e.f of an exception of the class nm -/
def eFld (nm : String) (m : Ex) : Ex := fun e => (m e).bind fun s => match s.d with
  | .exc c [d] => if c = nm then .ok (.val d) else .bad
  | _ => .bad
theorem x_fld {X : Cx} {W : Wi} {m : Ex} {l : List Nat} {a : Expr} {pos : Pos} {nm f : String} {x : Str} {C : Addr} (ns : PySem.W.nsIn X.K mainGlobals (Str.ofString nm) = some (some (.ref C))) (TX : ExcC X.K C) (hno : PySem.W.findIn X.K (.ref C) (Str.ofString f) = some none) (ha : SE X W a m l)
    (hx : x = Str.ofString f := by rfl) (hb : attributeBase a x X.env (eval a X.env) = eval a X.env := by rfl) (hfn : fnames nm = [Str.ofString f] := by rfl) : SE X W (.Attribute a x pos) (eFld nm m) l := by
  subst hx
  refine PE.imp (pe_xfT ha hb) fun σ H Q ⟨T, B, Z, rt, e, r, q⟩ => ?_
  unfold eFld at q
  refine tE_go r (fun d hd => by rw [hd] at q; exact q) (fun hd => by rw [hd] at q; exact q) fun s y H1 hs sm r1 rs => ?_
  rw [hs, R.bind_ok] at q
  have rd := rs.d (N := NZ W.g Z e rt l H) fun a z => .inr (.inl z)
  cases hd : s.d with
  | exc c fs =>
    rw [hd] at q rd
    match fs, q, rd with
    | [], q, _ => exact q.elim
    | [d], q0, rd =>
      have q : (match (if c = nm then R.ok (S.val d) else R.bad) with
        | .ok s => ∀ x H', Same H H' → RepS X.K (NZ W.g Z e rt l H) H H' s x → Q x H'
        | .ex d => ∀ c o H', Same H H' → (XC W.xr H d c o H' → W.w c o σ H')
        | .bad => False) := q0
      clear q0
      by_cases hc : c = nm
      case neg => rw [if_neg hc] at q; exact q.elim
      rw [if_pos hc] at q
      have q2 : ∀ x H', Same H H' → RepS X.K (NZ W.g Z e rt l H) H H' (.val d) x → Q x H' := q
      subst hc
      obtain ⟨a, C', rfl, hns, h⟩ := rd
      rw [ns] at hns
      cases hns
      rcases h with ⟨h0, _⟩ | ⟨dd, xs, _, h1, h2, h3⟩
      · cases h0
      · obtain ⟨v, vs, rfl, hv, hvs⟩ := h3
        have hvs : vs = [] := hvs
        subst hvs
        rw [hfn] at h2
        exact ⟨a, C, dd, _, v, rfl, h1, ⟨TX.hg, TX.hk, TX.hs, TX.hd⟩, hno, h2, by simp [List.lookup], q2 v H1 sm hv⟩
    | _ :: _ :: _, q, _ => exact q.elim
  | _ => rw [hd] at q; exact q.elim
end Tg

/-! Tg, part 27: {k: v}, one pair, k a tuple of ints. -/
namespace Tg
open PySem PySem.Spec PyProof.Rows L2

/-- the reading: the new dict stands empty while the pair is made -/
def tDisp1T (tk tv : TE) : TE := fun σ H Q => ∀ p, H p = none → tk σ (upd H p (.dT [])) fun x H1 => tv σ H1 fun y H2 => ∃ (b : Addr) (ks : List Key), x = .ref b ∧ H2 b = some (.tup (ks.map kV)) ∧ H2 p = some (.dT []) ∧ Q (.ref p) (upd H2 p (.dT [(ks, y)]))
theorem pe_disp1T {X : Cx} {k v : Expr} {tk tv : TE} {pos : Pos} (hu : X.A.units + 65 < cLine) (hk : PE X k tk) (hv : PE X v tv) : PE X (.Dict [some k] [v] pos) (tDisp1T tk tv) := by
  refine ⟨fun pins s σ H Q I q => ?_⟩
  have hn := I.hok.fresh (Nat.le_refl s.heap.objs.size)
  have I1 := I.laid (a := s.heap.objs.size) (o := .dT []) (h' := s.heap.push { cls := .type "dict", data := .dict #[] }) (t' := s.toks) (fun _ _ q => Heap.get?_push_of_some _ q) (Nat.le_refl _) (dt_empty s.heap I.big)
  rw [arm_eval_Dict, zip_pairTrees [some k] [v] X.env pos rfl rfl, dictDisplay_pairs _ (by simp [pairTrees]) (by simp [pairTrees])]
  refine wpAny_bind (wpAny_standAt (wpAny_bind (wpAny_subDictH (knd := tupleKind (mixKind X.prog X.w)) (Q := fun d s' => wpAny (model X.prog X.w) X.A (pure (Value.ref d)) (fun u s' => ∃ v H', Inv X pins σ H' s' ∧ RelV v u ∧ Q v H') X.xe s') (show X.A.units < cLine by omega) (by simp [pairTrees]) ?_)))
  refine pairTrees_cons_walk (thn (hk.run pins _ σ _ _ I1 (q _ hn)) fun u s1 ⟨x, H1, J1, rx, q1⟩ => thn (hv.run pins s1 σ H1 _ J1 q1) fun w2 s2 ⟨y, H2, J2, ry, b, ks, ex, eb, ep, q2⟩ => pairTrees_nil_walk ?_)
  subst ex
  obtain rfl : u = Value.ref b := rx
  obtain ⟨z, hd, xs0, r0, dd⟩ := dt_of J2.hok ep
  cases r0
  refine ⟨[(ks, b, w2)], ⟨rfl, rfl, key_of J2.hok eb, trivial⟩, dd, fun h' tk' dd' hs => wpAny_pure ⟨.ref s.heap.objs.size, _, ?_, rfl, q2⟩⟩
  obtain ⟨o, es, ep', hq, h2, h3, h4, _, h5⟩ := (show h'.DictOfH (tupleKind (mixKind X.prog X.w)) s.heap.objs.size [(ks, b, w2)] from dd')
  refine d_write J2 (by rw [ep]; exact True.intro) hs ⟨o, hq⟩ ⟨by simp [sizeLine_eq], hd, [(ks, b, w2)], .cons ⟨rfl, ?_, ry⟩ .nil, o, es, ep', hq, h2, h3, h4, h5⟩
  rw [upd_ne (ne_of eb ep (fun z => nomatch z))]
  exact eb
section
variable {T : Tkn} {K : PySem.W.Frag} {B : Addr → Prop} {G : Nat → Nat} {Z : Nat → Addr → Prop} {rt : Nat → Addr} {e : En} {σ : L2.St} {H : Hp}
/-- an object that no slot knows is written -/
theorem Rel.other (r : Rel K B G Z rt e σ H) {p : Addr} {o o' : HO} (hz : ∀ g, ¬ Z g p) (hr : ∀ j u, e[j]? = some (some u) → u.rooted → rt j ≠ p) (hp : H p = some o) (h1 : ∀ xs, o ≠ .tup xs) (h2 : ¬ Fx o) (htk : ∀ k, T.tk k ≠ some p) : Rel K B G Z rt e σ (upd H p o') := by
  have st : Still H (upd H p o') := still_d hp h1 h2
  have im : ∀ g b zs, Z g b → H b = some (.lst zs) → Z g b ∧ upd H p o' b = some (.lst zs) := fun g b zs z h => ⟨z, by rw [upd_ne fun w => hz g (by rw [← w]; exact z)]; exact h⟩
  refine ⟨r.len, fun i d q => ?_, fun i ds q => ?_, fun i t kvs q => ?_, r.injs, fun q b z => ?_, r.dj, r.nw, fun b h => ?_, fun i m os q => ?_, fun k b q => ⟨?_, (r.tks k b q).2⟩, r.tki, r.stu⟩
  · obtain ⟨x, k1, k2⟩ := r.val i d q
    exact ⟨x, k1, Rep.imp (im _) st d x k2⟩
  · obtain ⟨k1, k2, k3, xs, k4, k5⟩ := r.own i ds q
    exact ⟨k1, k2, k3, xs, by rw [upd_ne (hr i _ q trivial)]; exact k4, RepL.imp (im _) st ds xs k5⟩
  · obtain ⟨k1, k2, k3, u, k4, k5⟩ := r.dct i t kvs q
    exact ⟨k1, k2, k3, u, by rw [upd_ne (hr i _ q trivial)]; exact k4, k5.still st⟩
  · by_cases c : b = p
    · subst c; rw [upd_same]; exact nofun
    · rw [upd_ne c]; exact r.al q b z
  · by_cases c : b = p
    · subst c; rw [upd_same] at h; cases h
    · rw [upd_ne c] at h; exact r.yg b h
  · obtain ⟨k1, k2⟩ := r.sto i m os q
    exact ⟨k1.imp (fun d x => Rep.imp (im _) st d x) (fun ds xs => RepL.imp (im _) st ds xs) (fun k b u z w => by rw [upd_ne (fun c => by subst c; exact htk k z)]; exact w), k2⟩
  · by_cases c : b = p
    · subst c; rw [upd_same]; exact nofun
    · rw [upd_ne c]; exact (r.tks k b q).1
end
def kDS2 (i : Nat) (e : En) (k : S) (v : S) : R Fl := match keyOf 1 k.d with
  | some g => if v.d.flat = true then .ok (.nx (e.set i (some (.dct 1 [(g, v.d)])))) else .bad
  | none => .bad
/-- x = {k: v}, k a tuple of ints -/
def sDSet1 (i : Nat) (k v : Ex) : Sx := fun e => (k e).bind fun x => (v e).bind (kDS2 i e x)
section
variable {X : Cx} {W : Wi} {H0 : Hp} {Z0 : Addr → Prop} {lk : List Nat} {k v : Expr} {m n : Ex} {l l2 : List Nat} {x : Str}
theorem s_dset1 (hu : X.A.units + 65 < cLine) (i : Nat) {p p2 pos : Pos} (hk : SE X W k m l) (hv : SE X W v n l2) (hN : X.N.Nodup) (hi : X.N[i]? = some x := by rfl) (hx : Loc X.env.scope x := by first | exact Or.inl rfl | exact Or.inr rfl) (hs : swapsWith (.Dict [some k] [v] p2) (some (.Name x p)) pos.line X.env = pure false := by rfl) (hf : X.fn x = true ∨ X.env.scope.names.lookup x = some .local := by first | exact .inl rfl | exact .inr rfl | assumption) :
    SS X W H0 Z0 lk (.Assign [.Name x p] (.Dict [some k] [v] p2) pos) (sDSet1 i m n) := by
  refine PS.imp (ps_set hN hi hx (pe_disp1T hu hk hv) hs hf) fun D σ H ⟨T, Zl, Hb, e, ⟨s0, kp, Z, rt, h1, h2, r⟩, q⟩ p hp => ?_
  unfold sDSet1 at q
  have sm0 : Same H (upd H p (.dT [])) := same_new hp
  have r0 := r.ext sm0
  refine tE_go r0 (fun d hd c o H' sm => by rw [hd] at q; exact (fun z9 => q c o σ H' ((s0.trans sm0).trans sm) (z9.mo (s0.trans sm0)))) (fun hd => by rw [hd] at q; exact q) fun s y H1 hs1 sm1 r1 rs1 => ?_
  rw [hs1, R.bind_ok] at q
  refine tE_go r1 (fun d hd c o H' sm => by rw [hd] at q; exact (fun z9 => q c o σ H' (((s0.trans sm0).trans sm1).trans sm) (z9.mo ((s0.trans sm0).trans sm1)))) (fun hd => by rw [hd] at q; exact q) fun s2 y2 H2 hs2 sm2 r2 rs2 => ?_
  rw [hs2, R.bind_ok] at q
  unfold kDS2 at q
  cases hkey : keyOf 1 s.d with
  | none => simp only [hkey] at q; exact q.elim
  | some g =>
    simp only [hkey] at q
    by_cases hfl : s2.d.flat = true
    case neg => rw [if_neg hfl] at q; exact q.elim
    rw [if_pos hfl] at q
    have rk := (rs1.d (N := NZ W.g Z e rt l (upd H p (.dT []))) fun a z => .inr (.inl z)).same sm2
    have rv : Rep X.K (fun _ => False) H2 s2.d y2 := Rep.flat (Still.refl _) s2.d y2 hfl (rs2.d (N := NZ W.g Z e rt l2 H1) fun a z => .inr (.inl z))
    have hp2 : H2 p = some (.dT []) := sm2 _ _ (sm1 _ _ upd_same)
    cases hc : s.d with
    | tup ds =>
      rw [hc] at hkey rk
      have hkey' : Tg.D.ints ds = some g := hkey
      have := ints_some hkey'
      subst this
      obtain ⟨b, xs, rfl, hb, rr⟩ := rk
      rw [rr.keys] at hb
      refine ⟨b, fT g, rfl, hb, hp2, ?_⟩
      have hnz : ∀ g, ¬ Z g p := fun g z => r.al g p z hp
      have hnr : ∀ j u, e[j]? = some (some u) → u.rooted → rt j ≠ p := fun j u k hu z => (r.live k hu).1 (by rw [z]; exact hp)
      have r3 := r2.other (o' := .dT [(fT g, y2)]) hnz hnr hp2 (fun xs h => nomatch h) nfx_T (fun k z => (r.tks k p z).1 hp)
      have st : Still H2 (upd H2 p (.dT [(fT g, y2)])) := still_d hp2 (fun xs h => nomatch h) nfx_T
      have r4 := r3.setRoot i (s := .dct 1 [(g, s2.d)]) trivial (q := p) (r.yg p hp) hnz (fun ds e => nomatch e) (fun t' kvs e => by
        cases e
        exact ⟨_, upd_same, .of (by decide) ⟨fun q hq => by rw [List.mem_singleton.mp hq]; rfl, ⟨_, rfl, .cons (Rep.flat st _ _ hfl rv) hfl .nil⟩⟩⟩) (fun j u _ k hu z => hnr j u k hu z) (fun k z => (r.tks k p z).1 hp)
      have sH : Same H (upd H2 p (.dT [(fT g, y2)])) := fun b u z => by
        rw [upd_ne (ne_of_none z hp)]
        exact sm2 _ _ (sm1 _ _ (sm0 _ _ z))
      exact q _ _ (.new s0 kp sH h1 h2 r4)
    | _ => rw [hc] at hkey; cases hkey
end
end Tg

/-! Tg: for x in E: if isinstance(x[3], list): x[3].clear(). -/
namespace Tg
open PySem PySem.Spec PyProof.Rows L2
/-- tuples, whose fourth thing is a list or a tuple of ints -/
def intsO : Option D → Bool
  | some (.lst fs) => (D.ints fs).isSome
  | some (.tup fs) => (D.ints fs).isSome
  | _ => false
def clr3 : D → Bool
  | .tup es => intsO es[3]?
  | _ => false
def kFCT (al sl : List Nat) (n i : Nat) (e : En) (s : S) : R Fl := if i < e.length ∧ e.length ≤ n then match s.d with
  | .lst ds => if ds.all clr3 = true then .ok (.nx ((killE sl (freeze al e)).set i none)) else .bad
  | _ => .bad
  else .bad
def sForClrT (al sl : List Nat) (n i : Nat) (a : Ex) : Sx := fun e => (a e).bind (kFCT al sl n i e)
def ClrB3 (i : Nat) (tb : TS) : Prop := ∀ (D : Ends) (σ : L2.St) (H : Hp) (b : Addr) (us : List V) (a : Addr), σ[i]? = some (some (.ref b)) → H b = some (.tup us) → us[3]? = some (.ref a) →
  (((∃ ys, H a = some (.lst ys)) ∧ D.nx σ (upd H a (.lst []))) ∨ ((∃ ys, H a = some (.tup ys)) ∧ D.nx σ H)) → tb D σ H
section
variable {X : Cx} {W : Wi} {H0 : Hp} {Z0 : Addr → Prop} {lk : List Nat} {m : Ex} {l : List Nat} {x : Str} {iter : Expr} {body : List Stmt} {tb : TS} {tp pos : Pos}
theorem s_forClrT (p : Nat) (sl : List Nat) (n i : Nat) (hp : PassesOwn (model X.prog X.w) X.A X.env X.xe) (hc : X.calm = true) (ha : SE X W iter m l) (hbd : PSs X body tb) (hB : ClrB3 i tb) (hN : X.N.Nodup) (hi : X.N[i]? = some x := by rfl) (hx : Loc X.env.scope x := by first | exact Or.inl rfl | exact Or.inr rfl)
    (hf : X.fn x = true ∨ X.env.scope.names.lookup x = some .local := by first | exact .inl rfl | exact .inr rfl) (hs : ∀ x, foldedSetIterable iter X.env x = pure x := by intro _; rfl)
    (hl : allg W.g p l = true := by rfl) (hn : lk.contains p = false := by rfl) (hp0 : (p != 0 && p != 99) = true := by rfl) (hsl : allIn W.g p n sl = true := by rfl) :
    SS X W H0 Z0 lk (.For (.Name x tp) iter body [] pos) (sForClrT l sl n i m) := by
  refine PS.imp (ps_for hp hc (pi_list ha) (pg_name hN hi hx hf) hbd hs) fun EE σ H ⟨T, Zl, Hb, e, ⟨s0, kp, Z, rt, h1, h2, r0⟩, q⟩ => ?_
  unfold sForClrT at q
  refine tE_go r0 (fun d hd c o H' sm => by rw [hd] at q; exact (fun z9 => q c o σ H' (s0.trans sm) (z9.mo s0))) (fun hd => by rw [hd] at q; exact q) fun s v H1 hs sm r1 rs => ?_
  rw [hs, R.bind_ok] at q
  unfold kFCT at q
  by_cases hlen : i < e.length ∧ e.length ≤ n
  case neg => rw [if_neg hlen] at q; exact q.elim
  rw [if_pos hlen] at q
  have hl := allg_of hl
  have hp' : p ≠ 0 ∧ p ≠ 99 := by simpa using hp0
  have hk' : p ∉ lk := by simpa using hn
  have r2 := r0.grow sm p l hl fun _ => False
  have rd : Rep X.K (NZ W.g Z e rt l H) H1 s.d v := rs.d fun a h => .inr (.inl h)
  have zs : ∀ a, NZ W.g Z e rt l H a → H1 a ≠ none → ZN p Z e rt l H H1 (fun _ => False) p a := fun a z h => zn_sub hl z (fun z => z) h
  have hsl' : ∀ (e' : En), e'.length = e.length → ∀ j s, e'[j]? = some (some s) → W.g j = p → j ∈ sl := fun e' he j s h hg => by
    refine allIn_of hsl ?_ hg
    have := (List.getElem?_eq_some_iff.mp h).1
    omega
  have zn : ∀ q a, ZN p Z e rt l H H1 (fun _ => False) q a → q = 99 ∨ Z0 a ∨ H0 a = none := fun q a z => by
    rcases z with z | ⟨_, ⟨z, _⟩ | z⟩
    · exact h2 q a z
    · exact .inr (.inr (s0.free z))
    · exact .inr (.inr (r0.root z).1)
  generalize hZ : ZN p Z e rt l H H1 (fun _ => False) = Z' at r2 zs zn
  have zl' : ∀ q a, Zl q a → q ∈ lk ∧ Z' q a := fun q a z => ⟨(h1 q a z).1, by rw [← hZ]; exact .inl (h1 q a z).2⟩
  cases hd : s.d with
  | lst ds =>
    rw [hd] at q rd
    by_cases hall : ds.all (clr3) = true
    case neg =>
      have q : Out X.K W H0 Z0 lk Zl Hb EE (if ds.all (clr3) = true then .ok (.nx ((killE sl (freeze l e)).set i none)) else .bad) := q
      rw [if_neg hall] at q
      exact q.elim
    have q : Out X.K W H0 Z0 lk Zl Hb EE (if ds.all (clr3) = true then .ok (.nx ((killE sl (freeze l e)).set i none)) else .bad) := q
    rw [if_pos hall] at q
    obtain ⟨a0, xs, rfl, ⟨n1, n2⟩, rr⟩ := rd
    have za0 := zs a0 n1 (by rw [n2]; exact nofun)
    refine ⟨a0, rfl, ⟨xs, .inl (.inl n2)⟩, ?_⟩
    -- each thing: a list of the group, not the walked one; or a tuple
    have items : ∀ (j : Nat) (y : V), xs[j]? = some y → ∃ b us a, y = .ref b ∧ H1 b = some (.tup us) ∧ us[3]? = some (.ref a) ∧ ((a ≠ a0 ∧ Z' p a ∧ ∃ ys, H1 a = some (.lst ys)) ∨ ∃ ys, H1 a = some (.tup ys)) := fun j y hy => by
      have hj : j < ds.length := by rw [← rr.length]; exact (List.getElem?_eq_some_iff.mp hy).1
      obtain ⟨v, g1, g2⟩ := rr.get (List.getElem?_eq_getElem hj)
      rw [hy] at g1
      cases g1
      have c1 := List.all_eq_true.mp hall _ (List.getElem_mem hj)
      cases hdj : ds[j] with
      | tup es =>
        rw [hdj] at c1 g2
        obtain ⟨b, us, rfl, m2, m3⟩ := g2
        cases he3 : es[3]? with
        | none =>
          have c1 : intsO es[3]? = true := c1
          rw [he3] at c1; cases c1
        | some d3 =>
          have c1 : intsO es[3]? = true := c1
          rw [he3] at c1
          obtain ⟨v3, k1, k2⟩ := m3.get he3
          cases d3 with
          | lst fs =>
            obtain ⟨a, ys, rfl, ⟨n3, n4⟩, n5⟩ := k2
            refine ⟨b, us, a, rfl, m2, k1, .inl ⟨fun c => ?_, zs a n3 (by rw [n4]; exact nofun), ys, n4⟩⟩
            subst c
            rw [n2] at n4
            cases n4
            obtain ⟨zs', hz⟩ := Option.isSome_iff_exists.mp c1
            exact ints_nl hz n5 hy
          | tup fs =>
            obtain ⟨a, ys, rfl, n4, _⟩ := k2
            exact ⟨b, us, a, rfl, m2, k1, .inr ⟨ys, n4⟩⟩
          | non => cases c1
          | bl _ => cases c1
          | int _ => cases c1
          | str _ => cases c1
          | scr _ => cases c1
          | exc _ _ => cases c1
          | jnk => cases c1
          | opq _ => cases c1
      | lst es => rw [hdj] at c1; cases c1
      | non => rw [hdj] at c1; cases c1
      | bl _ => rw [hdj] at c1; cases c1
      | int _ => rw [hdj] at c1; cases c1
      | str _ => rw [hdj] at c1; cases c1
      | scr _ => rw [hdj] at c1; cases c1
      | exc _ _ => rw [hdj] at c1; cases c1
      | jnk => rw [hdj] at c1; cases c1
      | opq _ => rw [hdj] at c1; cases c1
    let es : En := (killE sl (freeze l e)).set i none
    have hes : es.length = e.length := by show ((killE sl (freeze l e)).set i none).length = _; rw [List.length_set, killE_length, freeze_length]
    have again : killE sl es = es := killE_again sl (freeze l e) i
    -- the state of a turn
    let J : L2.St → Hp → Prop := fun σ H2 => Same H0 H2 ∧ KT (fun a => ∃ p, Zl p a) Hb T H2 ∧ Rel X.K (fun a => H0 a = none) W.g Z' rt es σ H2 ∧ H2 a0 = some (.lst xs) ∧ ∀ (j : Nat) (y : V), xs[j]? = some y → ∃ b us a, y = .ref b ∧ H2 b = some (.tup us) ∧ us[3]? = some (.ref a) ∧ ((a ≠ a0 ∧ Z' p a ∧ ∃ ys, H2 a = some (.lst ys)) ∨ ∃ ys, H2 a = some (.tup ys))
    have start : J σ H1 := by
      refine ⟨s0.trans sm, kp.trans (same_kp sm), ?_, n2, items⟩
      have k := r2.killW (ys := xs) za0 n2 (sl := sl) (hsl' _ (by rw [freeze_length]))
      rw [upd_id n2] at k
      have k2 := k.setNone i (σ[i]?.getD none)
      rw [show σ.set i (σ[i]?.getD none) = σ from ?_] at k2
      · exact k2
      · refine List.ext_getElem? fun j => ?_
        by_cases hj : i = j
        · subst hj
          cases h : σ[i]? with
          | none => rw [List.getElem?_eq_none (by rw [List.length_set]; exact List.getElem?_eq_none_iff.mp h)]
          | some o => rw [List.getElem?_set_self (List.getElem?_eq_some_iff.mp h).1]; rfl
        · rw [List.getElem?_set_ne hj]
    have at_ : ∀ {H2 : Hp}, H2 a0 = some (.lst xs) → SqL X.K H2 a0 xs := fun k => .inl (.inl k)
    refine ⟨fun k m σ H2 => m = xs.length - k ∧ k ≤ xs.length ∧ J σ H2, ⟨xs.length, by simp, Nat.zero_le _, start⟩, ?_⟩
    rintro k m σ2 H2 ⟨rfl, hk, j1, j2, j3, j4, j5⟩
    by_cases hlt : k < xs.length
    · refine .inr ⟨⟨xs, xs[k], at_ j4, List.getElem?_eq_getElem hlt⟩, J, fun σ' H' h' => ⟨xs.length - (k + 1), by omega, rfl, hlt, h'⟩, fun y H3 ⟨e3, hy⟩ => ?_⟩
      subst e3
      have hy := hy xs (at_ j4)
      obtain ⟨b0, us0, a, rfl, hb0, hu0, ha⟩ := j5 k y hy
      have il : i < σ2.length := by rw [← j3.len, hes]; exact hlen.1
      have j3' : Rel X.K (fun a => H0 a = none) W.g Z' rt es (σ2.set i (some (.ref b0))) H3 := by
        have := j3.setNone i (some (.ref b0))
        rwa [show es.set i none = es from List.set_set ..] at this
      refine hB _ _ _ b0 us0 a (List.getElem?_set_self il) hb0 hu0 ?_
      rcases ha with ⟨ne, za, ys, hys⟩ | ⟨ys, hys⟩
      · refine .inl ⟨⟨ys, hys⟩, ?_⟩
        have r5 := j3'.killW (ys := []) za hys (sl := sl) (hsl' _ hes)
        rw [again] at r5
        refine ⟨fun b u z => ?_, ?_, r5, ?_, ?_⟩
        · have young : H0 a = none := j3.nw p a hp'.1 hp'.2 za
          rw [upd_ne fun w => by subst w; rw [young] at z; cases z]
          exact j1 _ _ z
        · refine j2.trans ⟨fun b zs ⟨q, z⟩ w => ?_, still_lst hys⟩
          have := zl' q b z
          rw [upd_ne fun y => by subst y; exact hk' (by rw [← j3.dj q p b this.2 za]; exact this.1)]
          exact w
        · rw [upd_ne fun z => ne z.symm]; exact j4
        · intro j y hj
          obtain ⟨b, us, c, rfl, hb, hu, hc⟩ := j5 j y hj
          refine ⟨b, us, c, rfl, ?_, hu, ?_⟩
          · rw [upd_ne fun z => by subst z; rw [hys] at hb; cases hb]
            exact hb
          · rcases hc with ⟨nb, zb, us, hus⟩ | ⟨us, hus⟩
            · refine .inl ⟨nb, zb, ?_⟩
              by_cases e : c = a
              · subst e; exact ⟨[], upd_same⟩
              · rw [upd_ne e]; exact ⟨us, hus⟩
            · refine .inr ⟨us, ?_⟩
              rw [upd_ne fun e => by subst e; rw [hys] at hus; cases hus]
              exact hus
      · exact .inr ⟨⟨ys, hys⟩, j1, j2, j3', j4, j5⟩
    · have ek : k = xs.length := by omega
      refine .inl ⟨⟨xs, at_ j4, by omega⟩, ?_⟩
      exact @q T GrT.refl σ2 H2 ⟨j1, j2, Z', rt, zl', zn, j3⟩
  | non => rw [hd] at q; exact q.elim
  | bl b => rw [hd] at q; exact q.elim
  | int i => rw [hd] at q; exact q.elim
  | str t => rw [hd] at q; exact q.elim
  | tup ds => rw [hd] at q; exact q.elim
  | scr ns => rw [hd] at q; exact q.elim
  | exc c fs => rw [hd] at q; exact q.elim
  | jnk => rw [hd] at q; exact q.elim
  | opq _ => rw [hd] at q; exact q.elim
theorem at3 {us : List V} {v : V} (h : us[3]? = some v) : atI us 3 = some v := by
  have hl := (List.getElem?_eq_some_iff.mp h).1
  unfold atI ixN
  rw [if_pos (by decide), if_pos (by omega)]
  exact h
theorem s_forClrTI {p2 p3 p4 apos cpos epos q1 q2 q3 q4 q5 q6 ipos : Pos} {j1 j2 : Nat} (p : Nat) (sl : List Nat) (n i : Nat) (hm1 : X.mg "isinstance" = none) (hm2 : X.mg "list" = none) (hp : PassesOwn (model X.prog X.w) X.A X.env X.xe) (hc : X.calm = true) (ha : SE X W iter m l) (hN : X.N.Nodup) (hi : X.N[i]? = some x := by rfl) (hx : Loc X.env.scope x := by first | exact Or.inl rfl | exact Or.inr rfl)
    (hv : Vis X.env.scope x := by first | exact Or.inl rfl | exact Or.inr (Or.inl rfl) | exact Or.inr (Or.inr rfl)) (hd : (x == ("__debug__" : Str)) = false := by decide) (hcd : (x == ("__classdict__" : Str)) = false := by decide)
    (hg1 : Gl X "isinstance" := by rfl) (hg2 : Gl X "list" := by rfl)
    (he : starEach [.Subscript (.Name x q1) (.Constant (.int 3) j1 q5) q6, .Name "list" q2] X.env = (false, eval (.Subscript (.Name x q1) (.Constant (.int 3) j1 q5) q6) X.env) :: starEach [.Name "list" q2] X.env := by rfl) (he2 : starEach [.Name "list" q2] X.env = (false, eval (.Name "list" q2) X.env) :: starEach [] X.env := by rfl) (hpl : (backTo q4 (starEach [.Name "list" q2] X.env)).any (·.1) = false := by rfl)
    (ht : ∀ whole, PySem.isTrue (Expr.Call (.Name "isinstance" q3) [.Subscript (.Name x q1) (.Constant (.int 3) j1 q5) q6, .Name "list" q2] [] q4) X.env whole = (do let v ← whole; standAt (Expr.Call (.Name "isinstance" q3) [.Subscript (.Name x q1) (.Constant (.int 3) j1 q5) q6, .Name "list" q2] [] q4).pos; holding [v] (truthy v)) := by intro _; rfl)
    (hbase : attributeBase (.Subscript (.Name x p2) (.Constant (.int 3) j2 p3) p4) "clear" X.env (eval (.Subscript (.Name x p2) (.Constant (.int 3) j2 p3) p4) X.env) = eval (.Subscript (.Name x p2) (.Constant (.int 3) j2 p3) p4) X.env := by rfl) (hline : (apos.endLine == cpos.line) = true := by rfl)
    (hsw : swapsWith (.Call (.Attribute (.Subscript (.Name x p2) (.Constant (.int 3) j2 p3) p4) "clear" apos) [] [] cpos) none epos.line X.env = pure false := by rfl)
    (hf : X.fn x = true ∨ X.env.scope.names.lookup x = some .local := by first | exact .inl rfl | exact .inr rfl) (hs : ∀ x, foldedSetIterable iter X.env x = pure x := by intro _; rfl)
    (hl : allg W.g p l = true := by rfl) (hn : lk.contains p = false := by rfl) (hp0 : (p != 0 && p != 99) = true := by rfl) (hsl : allIn W.g p n sl = true := by rfl) :
    SS X W H0 Z0 lk (.For (.Name x tp) iter [.If (.Call (.Name "isinstance" q3) [.Subscript (.Name x q1) (.Constant (.int 3) j1 q5) q6, .Name "list" q2] [] q4) [.Expr (.Call (.Attribute (.Subscript (.Name x p2) (.Constant (.int 3) j2 p3) p4) "clear" apos) [] [] cpos) epos] [] ipos] [] pos) (sForClrT l sl n i m) := by
  refine s_forClrT p sl n i hp hc ha (pss_one (ps_if (pt_val (pe_callB call_isi hg1 hm1 (by decide +kernel) (pa_cons (pe_ix ix_seq (pe_var hi hv hd hcd) pe_int (fun _ _ => rfl)) (pa_cons (pe_bltn (v := .ty "list") hg2 hm2 PyProof.Rows.Boot.«list» rfl (by decide) (by decide)) pa_nil he2) he) (by decide) (by decide) he hpl) ht) (pss_one (ps_expr (pe_bm0 PySem.F.plainAttrs_list PySem.F.slot_list_clear PySem.F.type_list_clear mt_clear (pe_ix ix_seq (pe_var hi hv hd hcd) pe_int (fun _ _ => rfl)) hbase hline) hsw)) pss_nil)) ?_ hN hi hx hf hs hl hn hp0 hsl
  intro D σ H b us a hi hb hu h
  rcases h with ⟨⟨ys, hy⟩, q⟩ | ⟨⟨ys, hy⟩, q⟩
  · exact ⟨.ref b, hi, .inr (.inl ⟨b, us, 3, .ref a, rfl, rfl, sqt hb, at3 hu, .ref a, .ty "list", .type "list", .type "list", true, rfl, .ty "list", .base (.lst hy), kit_ty rfl, true, rfl, .ref b, hi, .inr (.inl ⟨b, us, 3, .ref a, rfl, rfl, sqt hb, at3 hu, .inl ⟨rfl, ys, .inl (.inl hy)⟩, a, ys, rfl, rfl, hy, q⟩)⟩)⟩
  · exact ⟨.ref b, hi, .inr (.inl ⟨b, us, 3, .ref a, rfl, rfl, sqt hb, at3 hu, .ref a, .ty "list", .type "tuple", .type "list", false, rfl, .ty "list", .base (.tup hy), kit_ty rfl, false, rfl, q⟩)⟩
end
end Tg

/-! Tg: a lambda that tells an item, its code in a table; the table's frame. -/
namespace Tg
open PySem PySem.Spec PyProof.Rows L2

/-- c is one of the code objects that the table at P tells -/
def CodeOf (H : Hp) (P c : Addr) : Prop := ∃ (ps : Array Value) (pos : Pos), H P = some (.tbl ps) ∧ codeAmong pos ps.toList = some (.ref c)
/-- all but the table at P stands; its codes are the old ones and new ones -/
structure SamB (P : Addr) (q : Str) (H H' : Hp) : Prop where
  k : ∀ b o, b ≠ P → H b = some o → H' b = some o
  t : LamX.TabS H' P q
  n : ∀ c, CodeOf H' P c → CodeOf H P c ∨ H c = none
section
variable {P : Addr} {q : Str} {H H1 H2 : Hp}
theorem tab_at (t : LamX.TabS H P q) : ∃ ps, H P = some (.tbl ps) := let ⟨ps, h, _⟩ := t; ⟨ps, h⟩
theorem tab_same (t : LamX.TabS H P q) (s : Same H H1) : LamX.TabS H1 P q := t.ext s
theorem tab_code (t : LamX.TabS H P q) {c : Addr} (h : CodeOf H P c) : H c = some (LamX.CodeO c q) := by
  obtain ⟨ps, h1, _, h3⟩ := t
  obtain ⟨ps', pos, e, hc⟩ := h
  rw [h1] at e
  cases e
  obtain ⟨c', e', r⟩ := h3 pos _ hc
  cases e'
  exact r
theorem code_back (t : LamX.TabS H P q) (s : Same H H1) {c : Addr} (h : CodeOf H1 P c) : CodeOf H P c := by
  obtain ⟨ps, e⟩ := tab_at t
  obtain ⟨ps', pos, e', hc⟩ := h
  rw [s _ _ e] at e'
  cases e'
  exact ⟨ps, pos, e, hc⟩
theorem SamB.of (t : LamX.TabS H P q) (s : Same H H1) : SamB P q H H1 := ⟨fun b o _ h => s b o h, tab_same t s, fun c h => .inl (code_back t s h)⟩
theorem SamB.pre (t : LamX.TabS H P q) (s : Same H H1) (s2 : SamB P q H1 H2) : SamB P q H H2 := ⟨fun b o hb h => s2.k b o hb (s b o h), s2.t, fun c h => (s2.n c h).elim (fun h => .inl (code_back t s h)) fun h => .inr (s.free h)⟩
theorem SamB.post (s : SamB P q H H1) (s2 : Same H1 H2) : SamB P q H H2 := ⟨fun b o hb h => s2 b o (s.k b o hb h), tab_same s.t s2, fun c h => s.n c (code_back s.t s2 h)⟩
theorem SamB.free (s : SamB P q H H1) (t : LamX.TabS H P q) {b : Addr} (h : H1 b = none) : H b = none := by
  cases e : H b with
  | none => rfl
  | some o =>
    by_cases hb : b = P
    · obtain ⟨ps, z⟩ := tab_at s.t
      rw [hb, z] at h
      cases h
    · rw [s.k b o hb e] at h
      cases h
end
section
variable {X : Cx} {pins : List (Addr × Obj)} {σ : L2.St} {H : Hp} {s : Shared}
/-- the lambda is made -/
theorem lam_mk {c P : Addr} {params : Arguments} {body : Expr} {scope : Scope} {pos : Pos} {E : Value → Shared → Prop} {Q : Value → Shared → Prop} (I : Inv X pins σ H s) (TB : LamX.TabB X.base X.mg c P) (hcode : X.env.code = .ref c)
    (hT : LamX.TabS H P (X.env.qual ++ "<lambda>")) (hdef : defaultsOf params X.env = ([], [])) (hfree : ∀ y ∈ scope.names, y.2 = .free → ∃ c, X.env.cells.lookup y.1 = some c)
    (h : ∀ (f c' : Addr) (pm ctv : Value) (H1 : Hp) (s' : Shared), Inv X pins σ H1 s' → SamB P (X.env.qual ++ "<lambda>") H H1 →
      s'.heap.get? f = some (PySem.W.kla_obj "<lambda>" (X.env.qual ++ "<lambda>") params body scope (cloFrom X.env.cells scope.names []) pm c' ctv) → H1 c' = some (LamX.CodeO c' (X.env.qual ++ "<lambda>")) → Q (.ref f) s') :
    wpAny (model X.prog X.w) X.A (eval (.Lambda params body scope pos) X.env) Q E s := by
  obtain ⟨ps, hP, ht, ha⟩ := hT
  have bP : s.heap.BuiltinsAt X.mg P := TB.bm.keeps I.bk
  have hP' : s.heap.get? P = some { cls := .none, data := .fields ps } := I.hok P _ hP
  refine PySem.W.kla_eval hdef ?_
  cases hc : codeAmong pos ps.toList with
  | some cv =>
    obtain ⟨c', e, hco⟩ := ha pos cv hc
    subst e
    refine PySem.W.kla_makeFunctionHit (mg := X.mg) (c := c) (P := P) (ps := ps) (closure_ok hfree) I.ok.glob (I.mod.glob.keeps I.bk) hcode (TB.code.keeps I.bk) hP' ht hc bP fun ctv h' tk hx hsz => ?_
    exact h _ c' _ ctv H _ (I.kept fun b o e => Heap.get?_push_of_some _ (hx b o e)) (SamB.of ⟨ps, hP, ht, ha⟩ (Same.refl H)) (Heap.get?_push_size _ rfl) hco
  | none =>
    refine PySem.W.kla_makeFunction (mg := X.mg) (c := c) (P := P) (ps := ps) (closure_ok hfree) I.ok.glob (I.mod.glob.keeps I.bk) hcode (TB.code.keeps I.bk) hP' ht hc TB.gP bP fun c' ctv h' tk hx hge hlt hrec htb => ?_
    obtain ⟨c2, oc, vs, t, e2, hoc, hd, hv⟩ := hrec
    cases e2
    have nC : H c' = none := I.hok.fresh hge
    have nPc : P ≠ c' := ne_of_none hP nC
    have I1 := LamX.inv_table (t' := tk) (more := #[rawInt pos.line, rawInt pos.col, .ref c']) (h' := h'.push (PySem.W.kla_obj "<lambda>" (X.env.qual ++ "<lambda>") params body scope (cloFrom X.env.cells scope.names []) ((X.mg "__name__").getD .none) c' ctv)) I hP
      (fun b o hb e => Heap.get?_push_of_some _ (hx b o hb e)) (Heap.get?_push_of_some _ htb) hge ⟨oc, vs, t, Heap.get?_push_of_some _ hoc, hd, hv⟩
    have eL : (ps ++ #[rawInt pos.line, rawInt pos.col, .ref c']).toList = ps.toList ++ [rawInt pos.line, rawInt pos.col, .ref c'] := by simp
    have atP : upd (upd H P (.tbl (ps ++ #[rawInt pos.line, rawInt pos.col, .ref c']))) c' (LamX.CodeO c' (X.env.qual ++ "<lambda>")) P = some (.tbl (ps ++ #[rawInt pos.line, rawInt pos.col, .ref c'])) := by rw [upd_ne nPc, upd_same]
    have up : ∀ b o, b ≠ P → H b = some o → upd (upd H P (.tbl (ps ++ #[rawInt pos.line, rawInt pos.col, .ref c']))) c' (LamX.CodeO c' (X.env.qual ++ "<lambda>")) b = some o := fun b o hb e => by
      rw [upd_ne (ne_of_none e nC), upd_ne hb]
      exact e
    refine h h'.objs.size c' _ ctv _ _ I1 ⟨up, ⟨_, atP, by rw [eL]; exact PySem.TriplesOk_snoc _ _ _ _ ht, fun p' cv hcv => ?_⟩, fun c0 hc0 => ?_⟩ (Heap.get?_push_size _ rfl) upd_same
    · rw [eL] at hcv
      rcases LamX.among_app _ ht hcv with z | z
      · obtain ⟨c0, e1, e2⟩ := ha p' cv z
        refine ⟨c0, e1, up c0 _ (fun w => ?_) e2⟩
        rw [w, hP] at e2
        exact LamX.codeO_ne ps (Option.some.inj e2).symm
      · exact ⟨c', z, upd_same⟩
    · obtain ⟨ps', p', e', hcv⟩ := hc0
      rw [atP] at e'
      cases e'
      rw [eL] at hcv
      rcases LamX.among_app _ ht hcv with z | z
      · exact .inl ⟨ps, p', hP, z⟩
      · cases z
        exact .inr nC
end
section
variable {prog : Program} {w : World} {A : Around} {E : Value → Shared → Prop} {s : Shared}
/-- a call of `lambda x: x[1]` -/
theorem lam_row {f c' p : Addr} {q x : Str} {pm ctv w0 : Value} {params : Arguments} {scope : Scope} {j : Nat} {p1 p2 p3 : Pos} {its : List Value} {cl : List (Str × Addr)} {Q : Value → Shared → Prop}
    (hroom : A.depth < recursionLimit) (ho : s.heap.get? f = some (PySem.W.kla_obj "<lambda>" q params (.Subscript (.Name x p1) (.Constant (.int 1) j p2) p3) scope cl pm c' ctv)) (hcd : s.heap.CodeRec (.ref c') q) (lim : s.heap.NoLimit)
    (hbind : bindArgs (PySem.W.kla_fn "<lambda>" q params (.Subscript (.Name x p1) (.Constant (.int 1) j p2) p3) scope cl pm (.ref c') ctv) ⟨[.ref p], []⟩ = pure [(x, .ref p)])
    (hx : scope.names.lookup x = some .local) (hk : scope.kind = .function) (hco : scope.isCoroutine = false) (hgen : scope.isGenerator = false) (hcell : ∀ y ∈ scope.names, y.2 ≠ .cell) (hdb : (x == ("__debug__" : Str)) = false)
    (ht : IsTup s.heap p its.toArray) (hl : its.length ≤ sizeLine) (hw : its[1]? = some w0) (h : ∀ h' tk, (∀ b o, s.heap.get? b = some o → h'.get? b = some o) → Q w0 { s with heap := h', toks := tk }) :
    wpAny (model prog w) A (call (.ref f) [.ref p]) Q E s := by
  refine wpAny_call (PySem.W.kla_callFunE hroom ho rfl hco hgen rfl hcd ?_)
  rw [hbind]
  refine wpAny_pure (wpAny_newFunctionEnv hcell (fun y hy => ?_) (fun h₁ hns hsb => ⟨lim.fresh _ hsb, ?_⟩) hk)
  · obtain rfl := List.mem_singleton.mp hy
    exact hx
  have kp : ∀ b o, s.heap.get? b = some o → h₁.get? b = some o := fun b o e => hsb.extBut b o (Nat.ne_of_lt (Heap.lt_size e)) (Heap.get?_push_of_some _ e)
  show codeAny _ _ (.expr (.Subscript (.Name x p1) (.Constant (.int 1) j p2) p3) (PySem.W.envX q scope s.heap.objs.size f (.ref c') cl)) _ _
  refine PySem.W.kla_codeExpr (Subscript_ (wpAny_Name (wpAny_loadName_local hk hx hns (v := .ref p) (by simp [List.lookup]) ?_) hdb))
  refine wpAny_Constant_int ?_
  have ht1 := ht.keeps kp
  have hn := line63
  have hlt : 1 < its.length := (List.getElem?_eq_some_iff.mp hw).1
  have hj : seqIndex? (1 : Int) its.toArray.size = some 1 := by
    rw [seqIndex_of (by decide) (by rw [List.size_toArray]; omega)]
    rfl
  exact subscriptTail_builtinR (x := w0) ht1.typeIs slot_tuple_getitem.lookup
    (getItem_tuple (j := 1) (Q := fun r s' => r = w0 ∧ _) ht1 (by decide) (by decide) hj (by simpa using hw) ⟨rfl, h _ _ kp⟩) rfl
end
end Tg

/-! Tg: sorted(xs, key=lambda x: x[1]). -/
namespace Tg
open PySem PySem.Spec PyProof.Rows L2
theorem dataLe_tuples {β : Type} (x : β → List Int) : PySem.W.dataLe false (fun b => PyData.tuple ((x b).map .int)) = fun p q => decide (x p ≤ x q) := by
  funext p q
  show (!PySem.W.dataLt (.tuple ((x q).map .int)) (.tuple ((x p).map .int))) = _
  rw [PySem.W.dataLt_tuple]
  show (!PySem.W.rowLt ((x q).map .int) ((x p).map .int)) = _
  rw [PySem.W.dataLt_ints]
  by_cases h : x q < x p
  · have h' : ¬ x p ≤ x q := fun r => List.not_lt.mpr r h
    simp [h, h']
  · have h' : x p ≤ x q := List.not_lt.mp h
    simp [h, h']
/-- the rows, each with its key -/
def KeyRows (H : Hp) (bs : List (V × List Int)) : Prop := ∀ b ∈ bs, ∃ (a : Addr) (ys : List V) (t : Addr), b.1 = .ref a ∧ H a = some (.tup ys) ∧ ys[1]? = some (.ref t) ∧ H t = some (.tup (b.2.map V.int)) ∧ b.2 ≠ []
theorem each_vals : ∀ {bs : List (V × List Int)} {its : List Value}, Vals (bs.map (·.1)) its → PySem.W.EachIs (fun (v : Value) (b : V × List Int) => RelV b.1 v) its bs
  | [], _, .nil => .nil
  | _ :: _, _, .cons r t => .cons r (each_vals t)
theorem vals_each : ∀ {bs : List (V × List Int)} {its : List Value}, PySem.W.EachIs (fun (v : Value) (b : V × List Int) => RelV b.1 v) its bs → Vals (bs.map (·.1)) its
  | _, _, .nil => .nil
  | _, _, .cons r t => .cons r (vals_each t)
theorem reads_ints {h : Heap} : ∀ {ns : List Int} {us : List Value}, Vals (ns.map V.int) us → ReadsAll h us (ns.map .int) []
  | [], _, .nil => .nil
  | n :: r, u :: _, .cons q t => by
    obtain ⟨k, rfl⟩ := (show ∃ k, u = Value.int n k from q)
    exact ReadsAll.cons (as := []) (bs := []) (.int n k) (reads_ints t)
def sK : List (V × List Int) → List V := fun bs => (bs.mergeSort (fun p q => decide (p.2 ≤ q.2))).map (·.1)
def tSortK (K : PySem.W.Frag) (P : Addr) (q : Str) (i : Nat) : TE := fun σ H Q => ∃ (a : Addr) (bs : List (V × List Int)), σ[i]? = some (some (.ref a)) ∧ LamX.TabS H P q ∧ H a = some (.lst (bs.map (·.1))) ∧ KeyRows H bs ∧
  ∀ (H1 : Hp) (p : Addr), SamB P q H H1 → H1 p = none → Q (.ref p) (upd H1 p (.lst (sK bs)))
section
variable {X : Cx}
theorem pe_sortK {i k : Nat} {c P : Addr} {y x : Str} {params : Arguments} {scope : Scope} {j : Nat} {np p p1 p2 p3 lpos kpos cpos : Pos} (hr : Room (k + 1) X.A) (TB : LamX.TabB X.base X.mg c P) (hcode : X.env.code = .ref c)
    (hN : X.N[i]? = some y) (hv : Vis X.env.scope y) (hx : scope.names.lookup x = some .local) (hk : scope.kind = .function) (hco : scope.isCoroutine = false) (hgen : scope.isGenerator = false) (hcell : ∀ y ∈ scope.names, y.2 ≠ .cell) (hfr : ∀ y ∈ scope.names, y.2 ≠ .free) (hdb : (x == ("__debug__" : Str)) = false)
    (hdef : defaultsOf params X.env = ([], [])) (hbind : ∀ (q : Str) (cl : List (Str × Addr)) (pm cv ctv u : Value), bindArgs (PySem.W.kla_fn "<lambda>" q params (.Subscript (.Name x p1) (.Constant (.int 1) j p2) p3) scope cl pm cv ctv) ⟨[u], []⟩ = pure [(x, u)])
    (hg : Gl X ("sorted" : Str)) (hm : X.mg ("sorted" : Str) = none) (hd : (y == ("__debug__" : Str)) = false := by decide) (hcd : (y == ("__classdict__" : Str)) = false := by decide) :
    PE X (.Call (.Name ("sorted" : Str) np) [.Name y p] [⟨some ("key" : Str), .Lambda params (.Subscript (.Name x p1) (.Constant (.int 1) j p2) p3) scope lpos, kpos⟩] cpos) (tSortK X.K P (X.env.qual ++ "<lambda>") i) := by
  refine ⟨fun pins s σ H Q I ⟨a, bs, hs, hT, ha, hk2, q⟩ => ?_⟩
  refine wpAny_Call_Name_kw (ld_blt I hg hm (u := .builtin "sorted") (by first | rfl | decide) ?_ (by decide) (by decide))
  refine PyProof.Rows.callWith_kw (thn ((pa_cons (pe_var hN hv hd hcd) pa_nil).run cpos pins s σ H (fun vs H1 => vs = [.ref a] ∧ H1 = H) I ⟨.ref a, hs, rfl, rfl⟩) fun us s1 ⟨vs, H1, I1, r1, e1, e2⟩ => ?_) rfl rfl rfl rfl
  subst e1
  subst e2
  rw [Vals.ref1 r1]
  show wpAny _ _ (evalAll ((do let v ← eval (.Lambda params (.Subscript (.Name x p1) (.Constant (.int 1) j p2) p3) scope lpos) X.env; standAt cpos; pure v) :: [])) _ _ s1
  refine wpAny_evalAll_cons (wpAny_bind (lam_mk I1 TB hcode hT hdef (fun y hy e => absurd e (hfr y hy)) fun f c' pm ctv H2 s2 I2 sm hf hco2 => wpAny_bind (wpAny_standAt (wpAny_pure (wpAny_evalAll_nil ?_)))))
  show wpAny _ _ (call (.builtin "sorted") [.ref a] [(Str.ofString "key", .ref f)]) _ _ s2
  have nP : ∀ b o, H1 b = some o → (∀ ps, o ≠ .tbl ps) → H2 b = some o := fun b o e n => sm.k b o (fun z => by
    obtain ⟨ps, t⟩ := tab_at hT
    rw [z, t] at e
    exact n ps (Option.some.inj e).symm) e
  obtain ⟨its, rv, hl, hz⟩ := I2.list (.inl (.inl (nP a _ ha (fun ps z => by cases z))))
  have hlen : its.length = bs.length := by rw [← rv.length, List.length_map]
  refine PySem.W.sorted_key_data (b := false) (fun b : V × List Int => PyData.tuple (b.2.map .int)) hl.isList (each_vals rv) (PySem.W.AllAlike.of fun b b' => by simp [PySem.W.alike, PySem.W.alike_ints]) (.inl fun d hd => ?_) (by rw [← hlen, ← rv.length]; exact hz) (fun b _ => ?_) (ksk_s1 _ _) (fun _ => ksk_l1 _ _) (fun _ => ksk_t1 _ _) (fun v b hR hb h tk kp => ?_) fun out c3 h' tk kp fresh hD hlo eo => ?_
  · obtain ⟨b, hb, rfl⟩ := List.mem_map.mp hd
    obtain ⟨_, _, _, _, _, _, _, ne⟩ := hk2 b hb
    cases e : b.2 with
    | nil => exact absurd e ne
    | cons n r => exact ⟨.int n, r.map .int, rfl⟩
  · have hd : (PyData.tuple (b.2.map .int)).depth = 1 := by simp [PyData.depth, PySem.W.depth_ints]
    rw [hd]
    have := hr.un
    omega
  · obtain ⟨ra, ys, t, e1, e2, e3, e4, _⟩ := hk2 b hb
    rw [e1] at hR
    obtain rfl : v = Value.ref ra := hR
    obtain ⟨jt, rj, tj, zj⟩ := I2.tuple (.inl (.inl (nP _ _ e2 (fun ps z => by cases z))))
    obtain ⟨w0, ew, rw0⟩ := rj.get e3
    obtain rfl : w0 = Value.ref t := rw0
    obtain ⟨kt, rk, tk2, _⟩ := I2.tuple (.inl (.inl (nP _ _ e4 (fun ps z => by cases z))))
    obtain ⟨⟨oc, vs, tt, hoc, hdc, hvc⟩, _, _⟩ := I2.hok c' _ hco2
    refine lam_row (s := { s2 with heap := h, toks := tk }) (by have := hr.dp; show X.A.depth < _; omega) (kp _ _ hf) ⟨c', oc, vs, tt, rfl, kp _ _ hoc, hdc, hvc⟩ (I2.nolimit.keeps kp) (hbind _ _ _ _ _ _) hx hk hco hgen hcell hdb (tj.keeps kp) (by rw [← rj.length]; exact zj) ew fun h3 tk3 k3 => ?_
    obtain ⟨ot, g1, g2, n, g3⟩ := tk2.keeps fun b o e => k3 b o (kp b o e)
    exact ⟨h3, tk3, rfl, k3, .tuple g1 g2 g3 (reads_ints rk)⟩
  · rw [dataLe_tuples] at eo
    exact ⟨.ref _, _, I2.laid (o := .lst (sK bs)) (t' := tk) kp (Nat.le_succ _) ⟨by unfold sK; rw [List.length_map, List.length_mergeSort, ← hlen, ← rv.length]; exact hz, out, c3, vals_each eo, hD⟩, rfl, q H2 _ sm (I2.hok.fresh (Nat.le_succ _))⟩
end
end Tg

/-! Tg: the frame of a table under the relation of slots; a def that ends in sorted(x, key=lambda row: row[1]). -/
namespace Tg
open PySem PySem.Spec PyProof.Rows L2
section
variable {T : Tkn} {K : PySem.W.Frag} {P : Addr} {q : Str} {H0 H H1 H2 : Hp} {N : Addr → Prop}
theorem SamB.up (s : SamB P q H H1) (t : LamX.TabS H P q) {b : Addr} {o : HO} (h : H b = some o) (n : ∀ ps, o ≠ .tbl ps) : H1 b = some o := s.k b o (fun z => by
  obtain ⟨ps, e⟩ := tab_at t
  rw [z, e] at h
  exact n ps (Option.some.inj h).symm) h
theorem SamB.still (s : SamB P q H H1) (t : LamX.TabS H P q) : Still H H1 := ⟨fun a xs h => s.up t h (fun _ z => by cases z), fun a u f h => s.up t h (fun ps z => by
  subst z
  rcases f with ⟨_, _, f⟩ | ⟨_, _, _, f⟩ | ⟨_, f⟩ <;> first | cases f | (unfold ExT at f; cases f))⟩
theorem Rep.samB (s : SamB P q H H1) (t : LamX.TabS H P q) {d : D} {x : V} (h : Rep K N H d x) : Rep K N H1 d x := Rep.imp (fun _ _ n r => ⟨n, s.up t r (fun _ z => by cases z)⟩) (s.still t) d x h
theorem RepL.samB (s : SamB P q H H1) (t : LamX.TabS H P q) {ds : List D} {xs : List V} (h : RepL K N H ds xs) : RepL K N H1 ds xs := RepL.imp (fun _ _ n r => ⟨n, s.up t r (fun _ z => by cases z)⟩) (s.still t) ds xs h
theorem ORep.samB (s : SamB P q H H1) (t : LamX.TabS H P q) {o : O} {a : Addr} (h : ORep K N H o a) : ORep K N H1 o a := by
  cases o with
  | lst ds => obtain ⟨xs, h1, h2⟩ := h; exact ⟨xs, s.up t h1 (fun _ z => by cases z), h2.samB s t⟩
  | dic kvs => obtain ⟨ks, h1, h2⟩ := h; exact ⟨ks, s.up t h1 (fun _ z => by cases z), h2.imp fun d x r => Rep.samB s t r⟩
  | ins c fs => obtain ⟨C, dx, vs, h0, h1, h2⟩ := h; exact ⟨C, dx, vs, h0, s.up t h1 (fun _ z => by cases z), h2.samB s t⟩
theorem SRep.samB (s : SamB P q H H1) (t : LamX.TabS H P q) {os : List O} (h : SRep K N H os) : SRep K N H1 os := ⟨fun k o e => let ⟨a, h1, h2⟩ := h.1 k o e; ⟨a, h1, h2.samB s t⟩, h.2⟩
theorem dob_ne {t : Nat} {kvs : List (List Int × D)} {a : Addr} {o : HO} (h : DOb K H t kvs a o) : ∀ ps, o ≠ .tbl ps := fun ps z => by
  unfold DOb at h
  split at h
  · obtain ⟨_, ks, e, _⟩ := h
    rw [e] at z
    unfold NDic at z
    cases z
  · obtain ⟨_, h⟩ := h
    match t, h with
    | 0, ⟨ks, e, _⟩ => rw [e] at z; cases z
    | 1, ⟨ks, e, _⟩ => rw [e] at z; cases z
    | _ + 2, ⟨ks, e, _⟩ => rw [e] at z; cases z
/-- the table and its codes -/
def KB (P : Addr) (H : Hp) (a : Addr) : Prop := a = P ∨ CodeOf H P a
open Classical in
/-- these alone -/
noncomputable def hpB (P : Addr) (H : Hp) : Hp := fun a => if KB P H a then H a else none
theorem hpB_same : Same (hpB P H) H := fun a o h => by
  unfold hpB at h
  split at h
  · exact h
  · cases h
theorem hpB_yes {a : Addr} (h : KB P H a) : hpB P H a = H a := by unfold hpB; rw [if_pos h]
theorem hpB_no {a : Addr} (h : ¬ KB P H a) : hpB P H a = none := by unfold hpB; rw [if_neg h]
theorem hpB_tab (t : LamX.TabS H P q) : LamX.TabS (hpB P H) P q := by
  obtain ⟨ps, h1, h2, h3⟩ := t
  refine ⟨ps, by rw [hpB_yes (.inl rfl)]; exact h1, h2, fun pos cv hc => ?_⟩
  obtain ⟨c, e, h⟩ := h3 pos cv hc
  exact ⟨c, e, by rw [hpB_yes (.inr ⟨ps, pos, h1, by rw [← e]; exact hc⟩)]; exact h⟩
/-- what is neither a table nor a code object -/
theorem kb_no (t : LamX.TabS H P q) {a : Addr} {o : HO} (h : H a = some o) (n1 : ∀ ps, o ≠ .tbl ps) (n2 : ∀ φ, o ≠ .ext φ) : ¬ KB P H a := fun z => by
  rcases z with z | z
  · obtain ⟨ps, e⟩ := tab_at t
    rw [z, e] at h
    exact n1 ps (Option.some.inj h).symm
  · have e := tab_code t z
    rw [h] at e
    exact n2 _ (Option.some.inj e)
/-- behind a call that may make codes: the relation from the table and its codes on -/
theorem Rel.rebase {G : Nat → Nat} {Z : Nat → Addr → Prop} {rt : Nat → Addr} {e : En} {σ : L2.St} (r : Rel K (fun a => H0 a = none) G Z rt e σ H1) (t0 : LamX.TabS H0 P q) (s0 : Same H0 H1) (sb : SamB P q H1 H2) :
    Rel K (fun a => hpB P H2 a = none) G Z rt e σ H2 := by
  have t1 := tab_same t0 s0
  have old : ∀ a, H0 a = none → H1 a ≠ none → hpB P H2 a = none := fun a h0 h1 => hpB_no fun z => by
    rcases z with z | z
    · obtain ⟨ps, e⟩ := tab_at t0
      rw [z, e] at h0
      cases h0
    · rcases sb.n a z with z | z
      · rw [tab_code t0 (code_back t0 s0 z)] at h0
        cases h0
      · exact h1 z
  refine ⟨r.len, fun i d h => let ⟨x, h1, h2⟩ := r.val i d h; ⟨x, h1, h2.samB sb t1⟩, fun i ds h => ?_, fun i t kvs h => ?_, r.injs, fun p a z w => r.al p a z (sb.free t1 w), r.dj, fun p a h1 h2 z => old a (r.nw p a h1 h2 z) (r.al p a z), fun a h => ?_, fun i m os h => ?_, fun k a h => ⟨fun z => (r.tks k a h).1 (sb.free t1 z), (r.tks k a h).2⟩, r.tki, r.stu⟩
  · obtain ⟨h1, h2, h3, xs, h4, h5⟩ := r.own i ds h
    exact ⟨h1, old _ h2 (by rw [h4]; exact nofun), h3, xs, sb.up t1 h4 (fun _ z => by cases z), h5.samB sb t1⟩
  · obtain ⟨h1, h2, h3, o, h4, h5⟩ := r.dct i t kvs h
    exact ⟨h1, old _ h2 (by rw [h4]; exact nofun), h3, o, sb.up t1 h4 (dob_ne h5), h5.still (sb.still t1)⟩
  · cases q' : hpB P H2 a with
    | none => rfl
    | some o =>
      rw [hpB_same a o q'] at h
      cases h
  · obtain ⟨h1, h2, h3, h4⟩ := r.sto i m os h
    exact ⟨h1.samB sb t1, h2, h3, fun hm k a z => old a (h4 hm k a z) (r.tks k a z).1⟩
end

/-! ### rows with keys of ints -/
def intD : D → Option Int
  | .int i => some i
  | _ => none
def keyI : D → List Int
  | .tup (_ :: .tup ks :: _) => ks.filterMap intD
  | _ => []
def okRow : D → Bool
  | .tup (d :: .tup ks :: r) => D.flat (.tup (d :: .tup ks :: r)) && !ks.isEmpty && ks.all fun k => (intD k).isSome
  | _ => false
def leKey (a b : D) : Bool := decide (keyI a ≤ keyI b)
def sortK (ds : List D) : List D := ds.mergeSort leKey
section
variable {T : Tkn} {K : PySem.W.Frag} {H : Hp} {N N' : Addr → Prop}
theorem ints_of : ∀ {ks : List D} {zs : List V}, (ks.all fun k => (intD k).isSome) = true → RepL K N H ks zs → zs = (ks.filterMap intD).map V.int
  | [], zs, _, h => h
  | k :: r, zs, f, ⟨y, ys, e, h1, h2⟩ => by
    rw [List.all_cons, Bool.and_eq_true] at f
    cases k with
    | int i =>
      have h1' : y = V.int i := h1
      rw [e, h1', ints_of f.2 h2]
      rfl
    | _ => exact absurd f.1 (by simp [intD])
theorem row_key {d : D} {x : V} (f : okRow d = true) (h : Rep K N H d x) : ∃ (a : Addr) (ys : List V) (t : Addr), x = .ref a ∧ H a = some (.tup ys) ∧ ys[1]? = some (.ref t) ∧ H t = some (.tup ((keyI d).map V.int)) ∧ keyI d ≠ [] := by
  unfold okRow at f
  split at f
  · rename_i d0 ks r
    rw [Bool.and_eq_true, Bool.and_eq_true] at f
    obtain ⟨a, xs, e, hs, y0, ys0, e0, _, y1, ys1, e1, ⟨t, zs, et, ht, hz⟩, _⟩ := h
    refine ⟨a, xs, t, e, hs, by rw [e0, e1, et]; rfl, ?_, ?_⟩
    · rw [ht, ints_of f.2 hz]
      rfl
    · show ks.filterMap intD ≠ []
      cases ks with
      | nil => simp at f
      | cons k r =>
        have fk := f.2
        rw [List.all_cons, Bool.and_eq_true] at fk
        cases k with
        | int i => simp [intD]
        | _ => exact absurd fk.1 (by simp [intD])
  · cases f
theorem row_flat {d : D} (f : okRow d = true) : d.flat = true := by
  unfold okRow at f
  split at f
  · rw [Bool.and_eq_true, Bool.and_eq_true] at f
    exact f.1.1
  · cases f
theorem repl_zip : ∀ {ds : List D} {xs : List V}, RepL K N H ds xs → ∀ t ∈ xs.zip ds, Rep K N H t.2 t.1
  | [], xs, h, t, m => by simp at m
  | d :: r, _, ⟨y, ys, e, h1, h2⟩, t, m => by
    rw [e, List.zip_cons_cons] at m
    rcases List.mem_cons.mp m with m | m
    · rw [m]; exact h1
    · exact repl_zip h2 t m
theorem repl_of : ∀ {l : List (V × D)}, (∀ t ∈ l, Rep K N H t.2 t.1) → RepL K N H (l.map (·.2)) (l.map (·.1))
  | [], _ => rfl
  | t :: r, h => ⟨t.1, r.map (·.1), rfl, h t List.mem_cons_self, repl_of fun u m => h u (List.mem_cons_of_mem _ m)⟩
/-- the rows, sorted -/
theorem sortK_rep {ds : List D} {xs : List V} (f : ds.all okRow = true) (h : RepL K N H ds xs) : ∃ bs : List (V × List Int), xs = bs.map (·.1) ∧ KeyRows H bs ∧ RepL K N' H (sortK ds) (sK bs) := by
  have hl := h.length
  have f' : ∀ d ∈ ds, okRow d = true := List.all_eq_true.mp f
  have hz := repl_zip h
  have hm : ∀ t ∈ xs.zip ds, t.2 ∈ ds := fun t m => (List.of_mem_zip (a := t.1) (b := t.2) m).2
  refine ⟨(xs.zip ds).map fun t => (t.1, keyI t.2), ?_, fun b hb => ?_, ?_⟩
  · rw [List.map_map]
    show xs = (xs.zip ds).map Prod.fst
    rw [List.map_fst_zip (by omega)]
  · obtain ⟨t, ht, rfl⟩ := List.mem_map.mp hb
    exact row_key (f' _ (hm t ht)) (hz t ht)
  · have e1 : sK ((xs.zip ds).map fun t => (t.1, keyI t.2)) = ((xs.zip ds).mergeSort fun p q => leKey p.2 q.2).map (·.1) := by
      unfold sK
      rw [← List.map_mergeSort (r := fun p q => leKey p.2 q.2) (fun a _ b _ => rfl), List.map_map]
      rfl
    have e2 : sortK ds = ((xs.zip ds).mergeSort fun p q => leKey p.2 q.2).map (·.2) := by
      unfold sortK
      rw [List.map_mergeSort (s := leKey) (fun a _ b _ => rfl), List.map_snd_zip (by omega)]
    rw [e1, e2]
    refine repl_of fun t m => ?_
    have m' := List.mem_mergeSort.mp m
    exact Rep.flat (Still.refl H) _ _ (row_flat (f' _ (hm t m'))) (hz t m')
end
end Tg

/-! Tg: the def that ends in sorted(x, key=lambda row: row[1]); a law that calls it. -/
namespace Tg
open PySem PySem.Spec PyProof.Rows L2
/-- what the def's pure run must be for -/
def OutB [T : Tkn] (K : PySem.W.Frag) (P : Addr) (q : Str) (H0 : Hp) (D : Ends) : R Fl → Prop
  | .ok (.rt s) => ∀ x H', SamB P q H0 H' → RepO K (fun a => H0 a = none) H0 H' s x → D.rt x H'
  | _ => False
def tB (K : PySem.W.Frag) (P : Addr) (q : Str) (W : Wi) (H0 : Hp) (Z0 : Addr → Prop) (m : Sx) : TS := fun D σ H => ∃ (T : Tkn) (Zl : Nat → Addr → Prop) (Hb : Hp × Tkn) (e : En), Body K W.g H0 Z0 [] Zl Hb e σ H ∧ LamX.TabS H0 P q ∧ OutB K P q H0 D (m e)
section
variable {X : Cx} {W : Wi} {H0 : Hp} {Z0 : Addr → Prop} {st : Stmt} {rest : List Stmt} {M N : Sx} {P : Addr} {q : Str}
theorem b_consB (hst : W.st = false) (hf : W.fr = true) (h1 : SS X W H0 Z0 [] st M) (h2 : PSs X rest (tB X.K P q W H0 Z0 N)) : PSs X (st :: rest) (tB X.K P q W H0 Z0 (sSeq M N)) := by
  refine PSs.imp (pss_cons h1 h2) fun D σ H ⟨T, Zl, Hb, e, B, t, q⟩ => ?_
  unfold sSeq at q
  refine ⟨T, Zl, Hb, e, B, ?_⟩
  cases h : M e with
  | bad => rw [h] at q; exact q.elim
  | ex d => rw [h] at q; exact q.elim
  | ok f =>
    rw [h, R.bind_ok] at q
    cases f with
    | rt s =>
      refine @fun T2 g x H' sm rs => ?_
      have e2 : T2 = T := by
        have z := g.h
        rw [if_neg (by rw [hst]; exact Bool.false_ne_true)] at z
        exact z
      subst e2
      exact q x H' (SamB.of t sm) (RepS.mono rs fun a z => z.elim (fun z => by rw [hf] at z; cases z.1) id)
    | nx e' =>
      refine @fun T2 g σ' H' B' => ?_
      have e2 : T2 = T := by
        have z := g.h
        rw [if_neg (by rw [hst]; exact Bool.false_ne_true)] at z
        exact z
      subst e2
      exact ⟨_, Zl, Hb, e', B', t, q⟩
/-- return sorted(x, key=lambda row: row[1]) -/
def sSortK (i : Nat) : Sx := fun e => match e[i]? with
  | some (some (.own ds)) => if ds.all okRow = true then .ok (.rt (.own (sortK ds))) else .bad
  | _ => .bad
theorem s_sortK {i : Nat} {E : Expr} {pos : Pos} (h : PE X E (tSortK X.K P q i)) : PSs X [.Return (some E) pos] (tB X.K P q W H0 Z0 (sSortK i)) := by
  refine PSs.imp (pss_one (ps_ret h)) fun D σ H ⟨T, Zl, Hb, e, ⟨s0, kp, Z, rt, h1, h2, r⟩, t0, q⟩ => ?_
  unfold sSortK at q
  split at q
  case h_2 => exact q.elim
  rename_i ds he
  split at q
  case isFalse => exact q.elim
  rename_i hok
  obtain ⟨k1, k2, k3, xs, k4, k5⟩ := r.own i ds he
  obtain ⟨bs, e1, kr, rep⟩ := sortK_rep (N' := fun a => False) hok k5
  subst e1
  have t := tab_same t0 s0
  refine ⟨rt i, bs, k1, t, k4, kr, fun H1 p sb hp => ?_⟩
  have sm := same_new (o := HO.lst (sK bs)) hp
  have sb2 := SamB.pre t0 s0 (sb.post sm)
  refine q (.ref p) _ sb2 ⟨p, sK bs, rfl, ?_, upd_same, ?_⟩
  · exact s0.free (sb.free t hp)
  · exact ((rep.samB sb t).same sm).mono fun a z => z.elim
end
/-- no end without return -/
def NoNx (M : Sx) : Prop := ∀ e e', M e ≠ .ok (.nx e')
theorem noNx_sortK {i : Nat} : NoNx (sSortK i) := fun e e' h => by
  unfold sSortK at h
  split at h
  · split at h <;> cases h
  · cases h
theorem noNx_seq {M N : Sx} (h : NoNx N) : NoNx (sSeq M N) := fun e e' z => by
  unfold sSeq at z
  cases hM : M e with
  | bad => rw [hM] at z; cases z
  | ex d => rw [hM] at z; cases z
  | ok f =>
    rw [hM, R.bind_ok] at z
    cases f with
    | rt s => cases z
    | nx e1 => exact h _ _ z
/-- such a def's promise -/
def spT (K : PySem.W.Frag) (P : Addr) (q : Str) (F : List D → R S) (n : Nat) : Sp := fun vs H Q _ => LamX.TabS H P q ∧ ∃ (T : Tkn) (N : Addr → Prop) (ds : List D), TokOk T H ∧ vs.length = n ∧ RepL K N H ds vs ∧ ∃ s, F ds = .ok s ∧ ∀ x H', SamB P q H H' → RepO K (fun a => H a = none) H H' s x → Q x H'
def CalT (P : Program) (w : World) (K : PySem.W.Frag) (mg : Str → Option Value) (base : Heap) (Pt : Addr) (q : Str) (k : Nat) (x : Str) (F : List D → R S) (n : Nat) : Prop :=
  ∃ f fd ps, FnOk P w K mg base (L2.CX P w) k f fd ps (spT K Pt q F n) ∧ mg x = some (.ref f) ∧ PySem.W.keepIn K (.ref f) = true ∧ Binds K fd ps []
section
variable {P : Program} {w : World} {K : PySem.W.Frag} {mg : Str → Option Value} {base : Heap} {xr : Hp → D → Value → Option Addr → Hp → Prop}
theorem def_calT {x : Str} {st : Stmt} {f Pt c : Addr} {q : Str} {fd : FuncData} {N ps : List Str} {k n : Nat} {M : Sx} (G : Nat → Nat) (h : Has K mg x st ps f fd) (hcode : fd.code = .ref c) (Sc : FnScope N ps (defScope st)) (hn : ps.length = n) (hG : (List.range n).all (fun i => G i == 0) = true) (hnx : NoNx M)
    (hb : ∀ (A : Around) (outer : List Env) (s : Shared) (H : Hp) (E : XK) (Z0 : Addr → Prop), Room k (A.deeper (envOfC x (defScope st) s.heap.objs.size f (.ref c))) →
      PSs (cxOf (L2.CX P w) P w K mg base N x (defScope st) f (.ref c) A outer s H E) (defBody st) (tB K Pt q ⟨xr, fun c o _ H => E c o H, G, true, false⟩ H Z0 M)) : CalT P w K mg base Pt q (k + 1) x (runB N.length M) n := by
  refine ⟨f, fd, ps, ?_, h.m, h.fn.kp, h.b⟩
  obtain ⟨oc, od, kV, doc, pm, an, cdv, ct, osl, rfl, lk, hcd⟩ := h.fn.ex
  obtain rfl : cdv = .ref c := hcode
  refine fn_of lk hcd Sc (fun vs H Q E ⟨_, _, _, _, _, hl, _⟩ => hl.trans hn.symm) fun A outer s H vs Q E hr ⟨t0, T, Nn, ds, tok, hl, rep, sv, hF, ok⟩ => ?_
  have hG' : ∀ i, i < ds.length → G i = 0 := fun i hi => by
    have := List.all_eq_true.mp hG i (List.mem_range.mpr (by rw [← hl, rep.length]; exact hi))
    simpa using this
  refine ⟨_, hb A outer s H E (fun a => Nn a ∧ H a ≠ none) hr, T, fun _ _ => False, (H, T), _, ⟨Same.refl H, KT.refl, _, fun _ => 0, fun p a z => z.elim, fun p a z => .inr (.inl z.2), start_rel hG' _ (repL_alloc rep) (fun a z => z.2) tok⟩, t0, ?_⟩
  unfold runB at hF
  cases hM : M (ds.map (fun d => some (S.val d)) ++ List.replicate (N.length - ds.length) none) with
  | bad => rw [hM] at hF; cases hF
  | ex d => rw [hM] at hF; cases hF
  | ok fl =>
    rw [hM] at hF
    cases fl with
    | nx e' => exact absurd hM (hnx _ _)
    | rt s' =>
      cases hF
      exact ok
end
/-! ### the law -/
/-- the law's state; m tells True -/
def tL (K : PySem.W.Frag) (P : Addr) (q : Str) (W : Wi) (m : Sx) : TS := fun D σ H => ∃ (H0 : Hp) (Z0 : Addr → Prop) (T : Tkn) (Zl : Nat → Addr → Prop) (Hb : Hp × Tkn) (e : En), LamX.TabS H0 P q ∧ Body K W.g H0 Z0 [] Zl Hb e σ H ∧ m e = .ok (.rt (.val (.bl true))) ∧ ∀ H', D.rt (.bl true) H'
section
variable {X : Cx} {W : Wi} {st : Stmt} {rest sts : List Stmt} {M N : Sx} {P : Addr} {q : Str}
theorem b_consL (h1 : ∀ (H0 : Hp) (Z0 : Addr → Prop), SS X W H0 Z0 [] st M) (h2 : PSs X rest (tL X.K P q W N)) : PSs X (st :: rest) (tL X.K P q W (sSeq M N)) := by
  have h1' : PS X st (fun D σ H => ∃ H0 Z0, tS X.K W H0 Z0 [] M D σ H) := ⟨fun pins s σ H D I ⟨H0, Z0, z⟩ => (h1 H0 Z0).run pins s σ H D I z⟩
  refine PSs.imp (pss_cons h1' h2) fun D σ H ⟨H0, Z0, T, Zl, Hb, e, t, B, hm, fin⟩ => ⟨H0, Z0, T, Zl, Hb, e, B, ?_⟩
  unfold sSeq at hm
  cases h : M e with
  | bad => rw [h] at hm; cases hm
  | ex d => rw [h] at hm; cases hm
  | ok f =>
    rw [h, R.bind_ok] at hm
    cases f with
    | rt s =>
      cases hm
      refine @fun T2 g x H' sm rs => ?_
      obtain rfl : x = .bl true := rs
      exact fin H'
    | nx e' => exact @fun T2 g σ' H' B' => ⟨H0, Z0, T2, Zl, Hb, e', t, B', hm, fin⟩
theorem b_restL (h : ∀ (H0 : Hp) (Z0 : Addr → Prop), SB X W H0 Z0 [] sts M) : PSs X sts (tL X.K P q W M) := by
  refine ⟨fun pins s σ H D I ⟨H0, Z0, T, Zl, Hb, e, t, B, hm, fin⟩ => (h H0 Z0).run pins s σ H D I ⟨T, Zl, Hb, e, B, ?_⟩⟩
  rw [hm]
  refine @fun T2 g x H' sm rs => ?_
  obtain rfl : x = .bl true := rs
  exact fin H'
/-- x = f(..), f such a def -/
def sCallT (i : Nat) (a : Ex) : Sx := fun e => (a e).bind fun s => match s with
  | .own ds => if D.flatL ds = true then .ok (.nx (e.set i (some (.own ds)))) else .bad
  | _ => .bad
theorem b_callL {i n k : Nat} {x f : Str} {F : List D → R S} {m : Ax} {l : List Nat} {e : Expr} {es : List Expr} {px p cpos pos : Pos} (C : CalT X.prog X.w X.K X.mg X.base P q k f F n) (hr : Room k X.A) (tk : Takes X W.w) (ha : SA X W (e :: es) m l) (hl : ∀ e ds, m e = .ok ds → ds.length = n) (h2 : PSs X rest (tL X.K P q W N))
    (hN : X.N.Nodup) (hi : X.N[i]? = some x) (hx : Loc X.env.scope x) (hs : swapsWith (.Call (.Name f p) (e :: es) [] cpos) (some (.Name x px)) pos.line X.env = pure false) (hfl : X.fn x = true ∨ X.env.scope.names.lookup x = some .local)
    (hg : Gl X f := by rfl) (hdb : (f == ("__debug__" : Str)) = false := by decide) (he : starEach (e :: es) X.env = (false, eval e X.env) :: starEach es X.env := by rfl) (hpl : (backTo cpos (starEach es X.env)).any (·.1) = false := by rfl) :
    PSs X (.Assign [.Name x px] (.Call (.Name f p) (e :: es) [] cpos) pos :: rest) (tL X.K P q W (sSeq (sCallT i (eCall F m)) N)) := by
  obtain ⟨fa, fd, ps, G, hm, kp, hb⟩ := C
  refine PSs.imp (pss_cons (ps_set hN hi hx (pe_callS G hr hg hm kp hb (fun σ => passAt tk σ) ha hdb he hpl) hs hfl) h2) fun D σ H ⟨H0, Z0, T, Zl, Hb, en, t0, ⟨s0, kp0, Z, rt, h1, h2, r⟩, hm, fin⟩ => ?_
  unfold sSeq sCallT eCall at hm
  cases hA : m en with
  | bad => rw [hA] at hm; cases hm
  | ex d => rw [hA] at hm; cases hm
  | ok ds =>
    rw [hA, R.bind_ok] at hm
    cases hF : F ds with
    | bad => rw [hF] at hm; cases hm
    | ex d => rw [hF] at hm; cases hm
    | ok s =>
      rw [hF, R.bind_ok] at hm
      cases s with
      | val _ => cases hm
      | dct _ _ => cases hm
      | sto _ _ => cases hm
      | both _ _ => cases hm
      | own es' =>
      cases hfl' : Tg.D.flatL es' with
      | false => simp only [hfl'] at hm; cases hm
      | true =>
      simp only [hfl', if_true, R.bind_ok] at hm
      refine tA_go r (fun d hd => by rw [hA] at hd; cases hd) (fun hd => by rw [hA] at hd; cases hd) fun ds' xs H1 hs' sm r1 rs => ?_
      rw [hA] at hs'
      cases hs'
      have s1 := s0.trans sm
      have t1 := tab_same t0 s1
      refine ⟨t1, T, _, ds, r1.tok, by rw [rs.length]; exact hl en ds hA, rs, _, hF, fun v H2 sb rv => ?_⟩
      obtain ⟨ro, ys, rfl, hro, hro2, rep⟩ := rv
      have r2 := r1.rebase t0 s1 sb
      have nk : hpB P H2 ro = none := hpB_no (kb_no sb.t hro2 (fun _ z => nomatch z) (fun _ z => nomatch z))
      have r3 := r2.setOwn i nk (fun p z => r1.al p ro z hro) hro2 (RepL.flat (Still.refl H2) _ _ hfl' rep) (fun j u hj hu hr => fun z => by
        have lv := (r1.live hu hr).1
        rw [z] at lv
        exact lv hro) (fun k z => (r1.tks k ro z).1 hro)
      exact ⟨hpB P H2, fun _ => True, T, fun _ _ => False, (H2, T), _, hpB_tab sb.t, ⟨hpB_same, KT.refl, _, _, fun p a z => z.elim, fun p a z => .inr (.inl trivial), r3⟩, hm, fin⟩
end
end Tg

/-! Tg: the law's promise and its end, with a table. -/
namespace Tg
open PySem PySem.Spec PyProof.Rows L2
def spLawT (K : PySem.W.Frag) (P : Addr) (q : Str) : Sp := fun vs H Q _ => LamX.TabS H P q ∧ ∃ (a : Addr) (ns : List Int), vs = [.ref a] ∧ Scr K H a (ns.map V.int) ∧ ns.length ≤ 63 ∧ ∀ H', Q (.bl true) H'
theorem law_fnT {P : Program} {w : World} {K : PySem.W.Frag} {mg : Str → Option Value} {base : Heap} {xr : Hp → D → Value → Option Addr → Hp → Prop} {x : Str} {st : Stmt} {f Pt : Addr} {q : Str} {fd : FuncData} {N ps : List Str} {k : Nat} {M : Sx} {G : Nat → Nat} (h : Has K mg x st ps f fd) (Sc : FnScope N ps (defScope st)) (hn : ps.length = 1) (hG : (G 0 == 0) = true)
    (hb : ∀ (cdv : Value) (A : Around) (outer : List Env) (s : Shared) (H : Hp) (E : XK), Room k (A.deeper (envOfC x (defScope st) s.heap.objs.size f cdv)) →
      PSs (cxOf (L2.CX P w) P w K mg base N x (defScope st) f cdv A outer s H E) (defBody st) (tL K Pt q ⟨xr, fun c o _ H => E c o H, G, false, false⟩ M))
    (T : ∀ ns : List Int, ns.length ≤ 63 → runB N.length M [.scr ns] = .ok (.val (.bl true))) : FnOk P w K mg base (L2.CX P w) (k + 1) f fd ps (spLawT K Pt q) := by
  refine h.fn.okX Sc (fun vs H Q E ⟨_, _, _, e, _⟩ => by rw [e, hn]; rfl) fun cdv A outer s H vs Q E hr ⟨t0, a, ns, e, hS, hl, q⟩ => ?_
  subst e
  have hT := T ns hl
  unfold runB at hT
  have hG' : ∀ i, i < [Tg.D.scr ns].length → G i = 0 := fun i hi => by
    obtain rfl : i = 0 := by simpa using hi
    simpa using hG
  refine ⟨_, hb cdv A outer s H E hr, H, fun a => H a ≠ none, Tkn.no, fun _ _ => False, (H, Tkn.no), _, t0, ⟨Same.refl H, KT.refl, _, fun _ => 0, fun p a z => z.elim, fun p a z => .inr (.inl z.2), start_rel (N := N) (Z := fun a => H a ≠ none) (ds := [.scr ns]) (T := Tkn.no) hG' _ ⟨_, _, rfl, ⟨a, rfl, hS⟩, rfl⟩ (fun a z => z) (tok_no H)⟩, ?_, q⟩
  cases hM : M ([Tg.D.scr ns].map (fun d => some (S.val d)) ++ List.replicate (N.length - [Tg.D.scr ns].length) none) with
  | bad => rw [hM] at hT; cases hT
  | ex d => rw [hM] at hT; cases hT
  | ok fl =>
    rw [hM] at hT
    cases fl with
    | nx e' => cases hT
    | rt s => cases hT; rfl
/-- of any list: it is held as known -/
def spLawU (K : PySem.W.Frag) (P : Addr) (q : Str) : Sp := fun vs H Q _ => LamX.TabS H P q ∧ ∃ (a : Addr) (ns : List Int), vs = [.ref a] ∧ SqL K H a (ns.map V.int) ∧ ns.length ≤ 63 ∧ ∀ H', Q (.bl true) H'
theorem law_any {P : Program} {w : World} {K : PySem.W.Frag} {mg : Str → Option Value} {base : Heap} {f Pt : Addr} {q : Str} {fd : FuncData} {ps : List Str} {k : Nat} (F : FnOk P w K mg base (L2.CX P w) k f fd ps (spLawT K Pt q)) (hn : ps.length = 1) : FnOk P w K mg base (L2.CX P w) k f fd ps (spLawU K Pt q) := by
  refine ⟨fun vs H Q E ⟨_, _, _, e, _⟩ => by rw [e, hn]; rfl, fun A outer s H args us vs Q E hr he hb hv ⟨t0, a, ns, e, hS, hl, fin⟩ => ?_⟩
  have of_scr : Scr K H a (ns.map V.int) → codeAny (model P w) A (.call (.ref f) args) (CR (L2.CX P w) outer P w H s Q E) s := fun hs => F.run A outer s H args us vs Q E hr he hb hv ⟨t0, a, ns, e, hs, hl, fin⟩
  rcases hS with (h | h) | h
  · obtain ⟨hz, its, n, rv, ho⟩ := he.hok a _ h
    have hs : ∀ b, H b = none → upd H a (.frz { cls := .type "list", data := .seq its.toArray n } (.lst (ns.map V.int))) b = none := fun b z => by
      rw [upd_ne (fun w => by rw [w, h] at z; cases z)]
      exact z
    have hs2 : ∀ b, upd H a (.frz { cls := .type "list", data := .seq its.toArray n } (.lst (ns.map V.int))) b = none → H b = none := fun b z => by
      by_cases hb : b = a
      · rw [hb, upd_same] at z
        cases z
      · rwa [upd_ne hb] at z
    have up : ∀ b o, H b = some o → (∀ xs, o ≠ .lst xs) → upd H a (.frz { cls := .type "list", data := .seq its.toArray n } (.lst (ns.map V.int))) b = some o := fun b o z n => by
      rw [upd_ne (fun w => by rw [w, h] at z; exact n _ (Option.some.inj z).symm)]
      exact z
    have e0 : Env0 P w K mg base A outer s (upd H a (.frz { cls := .type "list", data := .seq its.toArray n } (.lst (ns.map V.int)))) := ⟨he.frames, he.mod, fun b o z => ⟨(he.bs b o z).1, hs b (he.bs b o z).2⟩, he.bsz, he.funs, fun b z => hs b (he.frf b z), fun b u z => by
      by_cases hb : b = a
      · rw [hb, upd_same] at z
        cases z
        rw [hb]
        exact ⟨ho, hz, its, n, rv, ho⟩
      · rw [upd_ne hb] at z
        exact (he.hok b u z).stay (fun _ _ _ w => w) (fun c w => up c _ w (fun _ z => nomatch z)) fun c xs w => up c _ w (fun _ z => nomatch z), he.bare⟩
    have tab : LamX.TabS (upd H a (.frz { cls := .type "list", data := .seq its.toArray n } (.lst (ns.map V.int)))) Pt q := by
      obtain ⟨pt, h1, h2, h3⟩ := t0
      refine ⟨pt, up _ _ h1 (fun _ z => nomatch z), h2, fun pos cv hc => ?_⟩
      obtain ⟨c, e1, e2⟩ := h3 pos cv hc
      exact ⟨c, e1, up _ _ e2 (fun xs z => by unfold LamX.CodeO at z; cases z)⟩
    refine codeAny_mono (F.run A outer s _ args us vs Q (fun _ _ _ => False) hr e0 hb hv ⟨tab, a, ns, e, .inl ⟨_, upd_same⟩, hl, fin⟩) fun r s' hq => ?_
    cases r with
    | error u =>
      obtain ⟨_, _, _, _, _, _, _, _, _, _, _, _, z⟩ := hq
      exact z.elim
    | ok fl =>
      cases fl with
      | ret u =>
        obtain ⟨v, H', os, bare, un, hok, r', z⟩ := hq
        exact ⟨v, H', os, bare, ⟨fun b o z1 z2 => un.keep b o z1 (hs b z2), fun b o z1 z2 => un.slot b o z1 (hs b z2), fun b o z1 z2 => un.free b o z1 (hs b z2), un.there, fun b xs z => un.tups b xs (up _ _ z (fun _ z => nomatch z)), fun b o u z => un.frzs b o u (up _ _ z (fun _ z => nomatch z)), fun b pt z => un.tbls b pt (up _ _ z (fun _ z => nomatch z))⟩, hok, r', z⟩
      | next => exact hq
      | brk => exact hq
      | cont => exact hq
  · exact of_scr (.inl h)
  · exact of_scr (.inr h)
/-- the walk, the top's tables told -/
theorem walk_T {l : PySem.W.OpenLaw} {n k : Nat} {q : Program} {loose : List Str} {XP : (Str → Option Value) → Heap → Prop} {YP : World → Heap → Prop} {d : DefRec} {K : Params → PySem.W.Frag} {CX : World → CXT} {x : Str}
    (hn : l.most = some n) (hn2 : n ≤ sizeLine) (hdf : d.params.defaults = []) (hr : Room k callerA) (hY : ∀ (w : World) (h : Heap), YP w h → (K w.params).In h)
    (F : ∀ (w : World) (mg : Str → Option Value) (fa : Addr) (h : Heap), YP w h → (K w.params).In h → h.Ns mainGlobals mg → mg d.name = some (.ref fa) →
      (∀ (y : Str) (dy : DefRec) (c P : Addr), (recsOf q).find? (fun e => e.name == y) = some dy → PySem.W.tabIn (K w.params) y = some (c, P) → PySem.W.CodeHd h c P ∧ h.get? P = some { cls := .none, data := .fields #[] }) → LamX.LawAtS l w (K w.params) (CX w) k n x mg fa h)
    (hCX : ∀ (w : World) (H : Hp) (s : Shared) (e : Value) (s' : Shared), CX w [] H s (fun _ _ _ => False) e s' → False) :
    PySem.W.WalkO q loose XP YP l.row.toRowW d [] (fun f vs => PySem.call f vs) := by
  refine Att.attach_callB hn hdf fun w s₀ s₁ mg mb fa o pm cd doc a vs ns G Y ho hd hcd hmg hobj hints hlen hbits hg => ?_
  have KX := hY w _ Y
  obtain ⟨fd, cs, sp, hT, nT, C, hb, hsp, hF⟩ := F w mg fa _ Y KX G.T.g hmg fun y dy c P h1 h2 => PySem.W.tab_of G.T KX h1 h2
  exact LamX.law_callTs KX G.T.g G.T.b G.T.builtins G.T.nolimit hg hT nT C G.T.bmain hobj hints (Nat.le_trans hlen hn2) hr hF hb (fun H hH hS => hsp H a ns hlen hbits hH hS) fun H e s' => hCX w H s₁ e s'
end Tg

/-! Tg: dicts whose keys are nested tuples of ints, asked and written. -/
namespace Tg
open PySem PySem.Spec PyProof.Rows L2
/-! the pure side -/
def nkD (q : List Int × D) : Option NestedKey := match q.2 with
  | .tup [k, _] => nkOf k
  | _ => none
def nVal (q : List Int × D) : Option D := match q.2 with
  | .tup [_, v] => some v
  | _ => none
def nLook (kvs : List (List Int × D)) (k : NestedKey) : Option D := (kvs.find? fun q => decide (nkD q = some k)).bind nVal
def nSet (v : D) (q : List Int × D) : List Int × D := match q.2 with
  | .tup [k', _] => ([], .tup [k', v])
  | _ => q
def nPut (kvs : List (List Int × D)) (kd v : D) (k : NestedKey) : List (List Int × D) := if (nLook kvs k).isSome = true then kvs.map (fun q => if nkD q = some k then nSet v q else q) else kvs ++ [([], .tup [kd, v])]
/-! hashes of ints do not ask the world -/
mutual
theorem nk_hash : ∀ (d : D) (k : NestedKey) (w w' : World), nkOf d = some k → k.hash w = k.hash w'
  | .int i, k, w, w', h => by
    simp only [nkOf, Option.some.injEq] at h
    subst h
    simp [NestedKey.hash]
  | .tup ds, k, w, w', h => by
    simp only [nkOf] at h
    split at h
    · rename_i ks hk
      cases h
      simp only [NestedKey.hash]
      rw [nk_hashes ds ks w w' hk]
    · cases h
  | .non, k, _, _, h => by simp [nkOf] at h
  | .bl _, k, _, _, h => by simp [nkOf] at h
  | .str _, k, _, _, h => by simp [nkOf] at h
  | .lst _, k, _, _, h => by simp [nkOf] at h
  | .scr _, k, _, _, h => by simp [nkOf] at h
  | .exc _ _, k, _, _, h => by simp [nkOf] at h
  | .jnk, k, _, _, h => by simp [nkOf] at h
  | .opq _, k, _, _, h => by simp [nkOf] at h
theorem nk_hashes : ∀ (ds : List D) (ks : List NestedKey) (w w' : World), nkAll ds = some ks → NestedKey.hashes w ks = NestedKey.hashes w' ks
  | [], ks, w, w', h => by
    simp only [nkAll, Option.some.injEq] at h
    subst h
    simp [NestedKey.hashes]
  | d :: r, ks, w, w', h => by
    simp only [nkAll] at h
    split at h
    · rename_i k ks' h1 h2
      cases h
      simp only [NestedKey.hashes]
      rw [nk_hash d k w w' h1, nk_hashes r ks' w w' h2]
    · cases h
end
section
variable {X : Cx} {pins : List (Addr × Obj)} {σ : L2.St} {H : Hp} {s : Shared} {N : Addr → Prop} {T : Tkn}
mutual
theorem nk_is (I : Inv X pins σ H s) : ∀ (d : D) (k : NestedKey) (x : V) (u : Value), nkOf d = some k → Rep X.K N H d x → RelV x u → NestedIs s.heap k u
  | .int i, k, x, u, h, r, ru => by
    simp only [nkOf, Option.some.injEq] at h
    subst h
    obtain rfl : x = V.int i := r
    obtain ⟨t, rfl⟩ := (show ∃ t, u = Value.int i t from ru)
    exact .int i t
  | .tup ds, k, x, u, h, ⟨a, xs, e, hs, hr⟩, ru => by
    simp only [nkOf] at h
    split at h
    · rename_i ks hk
      cases h
      subst e
      obtain rfl : u = Value.ref a := ru
      obtain ⟨its, rv, ⟨o, h1, h2, n, h3⟩, _⟩ := I.tuple (.inl (.inl hs))
      exact .tup h1 h2 h3 (nk_all I ds ks xs its hk hr rv)
    · cases h
  | .non, k, _, _, h, _, _ => by simp [nkOf] at h
  | .bl _, k, _, _, h, _, _ => by simp [nkOf] at h
  | .str _, k, _, _, h, _, _ => by simp [nkOf] at h
  | .lst _, k, _, _, h, _, _ => by simp [nkOf] at h
  | .scr _, k, _, _, h, _, _ => by simp [nkOf] at h
  | .exc _ _, k, _, _, h, _, _ => by simp [nkOf] at h
  | .jnk, k, _, _, h, _, _ => by simp [nkOf] at h
  | .opq _, k, _, _, h, _, _ => by simp [nkOf] at h
theorem nk_all (I : Inv X pins σ H s) : ∀ (ds : List D) (ks : List NestedKey) (xs : List V) (us : List Value), nkAll ds = some ks → RepL X.K N H ds xs → Vals xs us → NestedAll s.heap ks us
  | [], ks, xs, us, h, r, ru => by
    simp only [nkAll, Option.some.injEq] at h
    subst h
    have r' : xs = [] := r
    rw [r'] at ru
    cases ru
    exact .nil
  | d :: r, ks, xs, us, h, ⟨y, ys, e, h1, h2⟩, ru => by
    simp only [nkAll] at h
    split at h
    · rename_i k ks' q1 q2
      cases h
      rw [e] at ru
      cases ru with
      | cons a b => exact .cons (nk_is I d k y _ q1 h1 a) (nk_all I r ks' ys _ q2 h2 b)
    · cases h
end
end
section
variable {K : PySem.W.Frag} {H : Hp} {T : Tkn} {kvs : List (List Int × D)} {ks : List (NestedKey × Addr × V)} {xs : List (NestedKey × Addr × Value)}
theorem npair_all (r : NR K H kvs ks) : ∀ {xs : List (NestedKey × Addr × Value)}, NPair ks xs → ∀ x ∈ xs, ∃ kd, nkOf kd = some x.1 ∧ x.1.depth ≤ 8 ∧ Rep K (fun _ => False) H kd (.ref x.2.1) := by
  induction r with
  | nil =>
    intro xs np x hx
    cases np
    cases hx
  | cons h1 h2 h3 h4 h5 h6 _ ih =>
    intro xs np x hx
    cases np with
    | cons a b =>
      rcases List.mem_cons.mp hx with e | hx
      · rw [e, ← a.1, ← a.2.1]
        exact ⟨_, h1, h2, h4⟩
      · exact ih b x hx
theorem nlook (r : NR K H kvs ks) (k : NestedKey) : ∀ {xs : List (NestedKey × Addr × Value)}, NPair ks xs → (nLook kvs k = none ∧ atKey xs k = none) ∨ ∃ d y p, nLook kvs k = some d ∧ atKey xs k = some p ∧ RelV y p.2 ∧ Rep K (fun _ => False) H d y ∧ d.flat = true := by
  induction r with
  | nil =>
    intro xs np
    cases np
    exact .inl ⟨rfl, rfl⟩
  | @cons kd v k0 b y r s h1 h2 h3 h4 h5 h6 _ ih =>
    intro xs np
    cases np with
    | @cons p q _ l a t =>
      obtain ⟨a1, a2, a3⟩ := a
      by_cases hk : k0 = k
      · refine .inr ⟨v, y, q.2, ?_, ?_, a3, h5, h6⟩
        · unfold nLook
          rw [List.find?_cons_of_pos (p := fun q => decide (nkD q = some k)) (decide_eq_true (show nkD ([], Tg.D.tup [kd, v]) = some k from h1.trans (by rw [hk])))]
          rfl
        · unfold atKey
          rw [List.find?_cons_of_pos (p := fun x : NestedKey × Addr × Value => decide (x.1 = k)) (decide_eq_true (a1.symm.trans hk))]
          rfl
      · have e1 : nLook (([], Tg.D.tup [kd, v]) :: r) k = nLook r k := by
          unfold nLook
          rw [List.find?_cons_of_neg (p := fun q => decide (nkD q = some k)) (fun z => hk (Option.some.inj (h1.symm.trans (show nkD ([], Tg.D.tup [kd, v]) = some k from of_decide_eq_true z))))]
        have e2 : atKey (q :: l) k = atKey l k := by
          unfold atKey
          rw [List.find?_cons_of_neg (p := fun x : NestedKey × Addr × Value => decide (x.1 = k)) (fun z => hk (a1.trans (of_decide_eq_true z)))]
        rw [e1, e2]
        exact ih t
theorem nset (r : NR K H kvs ks) {k : NestedKey} {v : D} {y : V} {u : Value} (hv : Rep K (fun _ => False) H v y) (hf : v.flat = true) (ru : RelV y u) : ∀ {xs : List (NestedKey × Addr × Value)}, NPair ks xs →
    ∃ ks', NR K H (kvs.map (fun q => if nkD q = some k then nSet v q else q)) ks' ∧ NPair ks' (xs.map (putAt k u)) := by
  induction r with
  | nil =>
    intro xs np
    cases np
    exact ⟨[], .nil, .nil⟩
  | @cons kd v0 k0 b y0 r s h1 h2 h3 h4 h5 h6 hr ih =>
    intro xs np
    cases np with
    | @cons p q _ l a t =>
      obtain ⟨a1, a2, a3⟩ := a
      obtain ⟨ks', g1, g2⟩ := ih t
      have e0 : nkD ([], Tg.D.tup [kd, v0]) = some k0 := h1
      by_cases hk : k0 = k
      · refine ⟨(k0, b, y) :: ks', ?_, ?_⟩
        · rw [List.map_cons, if_pos (by rw [e0, hk])]
          exact .cons h1 h2 h3 h4 hv hf g1
        · rw [List.map_cons]
          refine .cons ?_ g2
          unfold putAt
          rw [if_pos (a1.symm.trans hk)]
          exact ⟨a1, a2, ru⟩
      · refine ⟨(k0, b, y0) :: ks', ?_, ?_⟩
        · rw [List.map_cons, if_neg (by rw [e0]; exact fun z => hk (Option.some.inj z))]
          exact .cons h1 h2 h3 h4 h5 h6 g1
        · rw [List.map_cons]
          refine .cons ?_ g2
          unfold putAt
          rw [if_neg (fun z => hk (a1.trans z))]
          exact ⟨a1, a2, a3⟩
theorem nadd (r : NR K H kvs ks) {kd v : D} {k : NestedKey} {b : Addr} {y : V} {u : Value} (h1 : nkOf kd = some k) (h2 : k.depth ≤ 8) (h3 : kd.flat = true) (h4 : Rep K (fun _ => False) H kd (.ref b)) (hv : Rep K (fun _ => False) H v y) (hf : v.flat = true) (ru : RelV y u) : ∀ {xs : List (NestedKey × Addr × Value)}, NPair ks xs →
    ∃ ks', NR K H (kvs ++ [([], .tup [kd, v])]) ks' ∧ NPair ks' (xs ++ [(k, b, u)]) := by
  induction r with
  | nil =>
    intro xs np
    cases np
    exact ⟨[(k, b, y)], .cons h1 h2 h3 h4 hv hf .nil, .cons ⟨rfl, rfl, ru⟩ .nil⟩
  | cons g1 g2 g3 g4 g5 g6 hr ih =>
    intro xs np
    cases np with
    | cons a t =>
      obtain ⟨ks', j1, j2⟩ := ih t
      exact ⟨_, .cons g1 g2 g3 g4 g5 g6 j1, .cons a j2⟩
theorem nput (r : NR K H kvs ks) (np : NPair ks xs) {kd v : D} {k : NestedKey} {b : Addr} {y : V} {u : Value} (h1 : nkOf kd = some k) (h2 : k.depth ≤ 8) (h3 : kd.flat = true) (h4 : Rep K (fun _ => False) H kd (.ref b)) (hv : Rep K (fun _ => False) H v y) (hf : v.flat = true) (ru : RelV y u) :
    ∃ ks', NR K H (nPut kvs kd v k) ks' ∧ NPair ks' (storedH xs k b u) := by
  unfold nPut
  rcases nlook r k np with ⟨e1, e2⟩ | ⟨d, y0, p, e1, e2, _⟩
  · rw [e1, if_neg (by simp), storedH_new e2]
    exact nadd r h1 h2 h3 h4 hv hf ru np
  · rw [e1, if_pos (show (some d).isSome = true from rfl), storedH_old e2]
    exact nset r hv hf ru np
theorem NR.length (r : NR K H kvs ks) : ks.length = kvs.length := by
  induction r with
  | nil => rfl
  | cons _ _ _ _ _ _ _ ih => rw [List.length_cons, List.length_cons, ih]
end
/-- a heap with nothing but such objects -/
theorem all_heap (a : Nat) (o : Obj) (ho : o.isFreed = false) : ∃ h : Heap, h.get? a = some o ∧ ∀ b o', h.get? b = some o' → o' = o := by
  have key : ∀ n : Nat, ∃ h : Heap, h.objs.size = n ∧ (∀ b, b < n → h.get? b = some o) ∧ ∀ b o', h.get? b = some o' → o' = o := fun n => by
    induction n with
    | zero => exact ⟨⟨#[], {}⟩, rfl, fun b hb => absurd hb (Nat.not_lt_zero _), fun b o' e => by simp [Heap.get?] at e⟩
    | succ n ih =>
      obtain ⟨h, e, h1, h2⟩ := ih
      refine ⟨h.push o, by rw [Heap.size_push, e], fun b hb => ?_, fun b o' hb => ?_⟩
      · by_cases q : b = n
        · rw [q, ← e]
          exact Heap.get?_push_size h ho
        · exact Heap.get?_push_of_some _ (h1 b (by omega))
      · rcases Heap.get?_push_cases hb with ⟨_, z⟩ | z
        · exact z
        · exact h2 b o' z
  obtain ⟨h, _, h1, h2⟩ := key (a + 1)
  exact ⟨h, h1 a (Nat.lt_succ_self _), h2⟩
section
variable {X : Cx} {pins : List (Addr × Obj)} {σ : L2.St} {H : Hp} {s : Shared} {T : Tkn} {a : Addr} {kvs : List (List Int × D)} {ks : List (NestedKey × Addr × V)} {o : Obj}
theorem ndic_at (I : Inv X pins σ H s) (h : H a = some (NDic a o ks)) (r : NR X.K H kvs ks) : (a == sysModules) = false ∧ ∃ xs, NPair ks xs ∧ s.heap.DictOfH (nestedKind X.prog X.w) a xs := by
  obtain ⟨⟨hsys, w0, xs, np, es, ep, ho, hex, hd, hes, nd⟩, _, _⟩ := I.hok a _ h
  have al := npair_all r np
  refine ⟨hsys, xs, np, o, es, ep, ho, hex, hd, ?_, fun x hx => ?_, nd⟩
  · rw [hes]
    refine List.map_congr_left fun x hx => ?_
    obtain ⟨kd, h1, _⟩ := al x hx
    show (⟨x.1.hash w0, .ref x.2.1, x.2.2⟩ : DictEntry) = ⟨x.1.hash X.w, .ref x.2.1, x.2.2⟩
    rw [nk_hash kd x.1 w0 X.w h1]
  · obtain ⟨kd, h1, h2, h3⟩ := al x hx
    exact ⟨nk_is I kd x.1 _ _ h1 h3 rfl, h2⟩
/-- such a dict's object is none of those that stand for ever -/
theorem ndic_nfx (I : Inv X pins σ H s) (h : H a = some (NDic a o ks)) : ¬ Fx (NDic a o ks) := fun f => by
  obtain ⟨⟨hsys, w0, xs, np, es, ep, ho, hex, hd, hes, nd⟩, _, _⟩ := I.hok a _ h
  rcases f with ⟨_, _, f⟩ | ⟨cls, d, a', f⟩ | ⟨_, f⟩
  · unfold NDic at f; cases f
  · obtain ⟨h0, g1, g2⟩ := all_heap a o (Heap.get?_some_iff.mp ho).2
    unfold NDic ExT at f
    have e := HO.ext.inj f
    have z := congrFun e h0
    have y := z.mp ⟨hsys, w0, xs, np, es, ep, g1, hex, hd, hes, nd⟩
    obtain ⟨oe, vs, k1, _, k3⟩ := y
    rw [g2 _ _ k1, hd] at k3
    cases k3
  · unfold NDic at f; cases f
theorem ndic_ok {h' : Heap} {xs : List (NestedKey × Addr × Value)} (hsys : (a == sysModules) = false) (np : NPair ks xs) (d : h'.DictOfH (nestedKind X.prog X.w) a xs) : ∃ o, ∀ H' : Hp, ObjOk X.prog X.w H' h' a (NDic a o ks) := by
  obtain ⟨o, es, ep, ho, hex, hd, hes, _, nd⟩ := d
  refine ⟨o, fun H' => ⟨⟨hsys, X.w, xs, np, es, ep, ho, hex, hd, hes, nd⟩, ⟨o, ho⟩, fun h1 h2 ⟨hs, w0, xs, np, es, ep, ho, r⟩ st => ⟨hs, w0, xs, np, es, ep, st o ho, r⟩⟩⟩
end
end Tg

/-! Tg: slots with dicts whose keys are nested tuples of ints (kind 3). -/
namespace Tg
open PySem PySem.Spec PyProof.Rows L2
def nctAt (e : En) (i : Nat) : Option (List (List Int × D)) := match e[i]? with
  | some (some (.dct t kvs)) => if t = 3 then some kvs else none
  | _ => none
theorem nctAt_some {e : En} {i : Nat} {kvs : List (List Int × D)} (h : nctAt e i = some kvs) : e[i]? = some (some (.dct 3 kvs)) := by
  unfold nctAt at h
  split at h
  · rename_i t kvs' hi
    split at h
    · rename_i ht
      cases h
      rw [hi, ht]
    · cases h
  · cases h
/-- the key of a nested dict -/
def nKey (d : D) : Option NestedKey := match d with
  | .tup ds => (match nkOf (.tup ds) with
    | some k => if D.flat (.tup ds) = true ∧ k.depth ≤ 8 then some k else none
    | none => none)
  | _ => none
section
variable {T : Tkn}
/-- a key k at y -/
def NK (K : PySem.W.Frag) (H : Hp) (k : NestedKey) (y : V) : Prop := ∃ (kd : D) (b : Addr), y = .ref b ∧ nkOf kd = some k ∧ k.depth ≤ 8 ∧ kd.flat = true ∧ Rep K (fun _ => False) H kd (.ref b)
theorem nk_rep {K : PySem.W.Frag} {H : Hp} {N : Addr → Prop} {d : D} {k : NestedKey} {y : V} (h : nKey d = some k) (r : Rep K N H d y) : ∃ b, y = .ref b ∧ nkOf d = some k ∧ k.depth ≤ 8 ∧ d.flat = true ∧ Rep K (fun _ => False) H d (.ref b) := by
  unfold nKey at h
  split at h
  · split at h
    · rename_i ds k' hk
      split at h
      · rename_i hh
        cases h
        obtain ⟨a, xs, e, r2⟩ := id r
        refine ⟨a, e, hk, hh.2, hh.1, ?_⟩
        rw [← e]
        exact Rep.flat (Still.refl H) _ _ hh.1 r
      · cases h
    · cases h
  · cases h
end
theorem room_n {A : Around} (h : A.units + 65 < cLine) {P : Program} {w : World} : (nestedKind P w).room A.in1 := by
  show A.units + 1 + 8 < cLine
  omega
section
variable {X : Cx} {pins : List (Addr × Obj)} {σ : L2.St} {H : Hp} {s : Shared}
theorem ndic_is {a : Addr} {o : Obj} {ks : List (NestedKey × Addr × V)} (I : Inv X pins σ H s) (h : H a = some (NDic a o ks)) : s.TypeIs (.ref a) "dict" ∧ ∀ b, Value.ref a = .ref b → ∃ ob, s.heap.get? b = some ob ∧ ob.dict = none := by
  obtain ⟨⟨hsys, w0, xs, np, es, ep, ho, hex, hd, hes, nd⟩, _, _⟩ := I.hok a _ h
  refine ⟨⟨o, ho, hex.1⟩, fun b q => ?_⟩
  cases q
  exact ⟨o, ho, hex.2.1⟩
def rNew : TE := fun _ H Q => ∀ p o, H p = none → Q (.ref p) (upd H p (NDic p o []))
theorem pe_nnew {pos : Pos} : PE X (.Dict [] [] pos) rNew := ⟨fun pins s σ H Q I h => by
  have ok : ∃ o, ∀ H' : Hp, ObjOk X.prog X.w H' (s.heap.push { cls := .type "dict", data := .dict #[] }) s.heap.objs.size (NDic s.heap.objs.size o []) := ndic_ok (beq_eq_false_iff_ne.mpr (Ne.symm (Nat.ne_of_lt I.big))) .nil (Heap.DictOfH.new s.heap)
  obtain ⟨o, g⟩ := ok
  exact wpAny_Dict_empty ⟨.ref s.heap.objs.size, _, I.laid (a := s.heap.objs.size) (o := NDic s.heap.objs.size o []) (t' := s.toks) (fun _ _ q => Heap.get?_push_of_some _ q) (Nat.le_refl _) (g _), rfl, h _ o (I.hok.fresh (Nat.le_refl _))⟩⟩
/-- d.get(y, z) -/
def tNGetD (K : PySem.W.Frag) (td ty tz : TE) : TE := fun σ H Q => td σ H fun x H0 => ∃ a o0 ks0, x = .ref a ∧ H0 a = some (NDic a o0 ks0) ∧ ty σ H0 fun y H1 => tz σ H1 fun z H2 => ∃ (T : Tkn) (ob : Obj) (ks : List (NestedKey × Addr × V)) (kvs : List (List Int × D)) (k : NestedKey) (kd : D) (b : Addr),
  H2 a = some (NDic a ob ks) ∧ NR K H2 kvs ks ∧ y = .ref b ∧ nkOf kd = some k ∧ k.depth ≤ 8 ∧ Rep K (fun _ => False) H2 kd (.ref b) ∧ (nLook kvs k = none → Q z H2) ∧ ∀ d v, nLook kvs k = some d → Rep K (fun _ => False) H2 d v → Q v H2
theorem pe_ngetD {o e f : Expr} {apos cpos : Pos} {td ty tz : TE} (hu : X.A.units + 65 < cLine) (ho : PE X o td) (he : PE X e ty) (hf : PE X f tz) (m : M2 X o "get" apos e f cpos) : PE X (.Call (.Attribute o "get" apos) [e, f] [] cpos) (tNGetD X.K td ty tz) := by
  refine ⟨fun pins s σ H Q I h => ?_⟩
  refine wpAny_Call_method m.base m.few m.line PySem.F.plainAttrs_dict PySem.F.slot_dict_get PySem.F.type_dict_get (thn (ho.run pins s σ H _ I h) fun u s1 ⟨x, H1, I1, rx, a, o0, ks0, ex, hd0, q1⟩ => ?_)
  subst ex
  obtain rfl : u = Value.ref a := rx
  obtain ⟨t1, t2⟩ := ndic_is I1 hd0
  refine ⟨t1, t2, ?_⟩
  rw [m.trees]
  refine Calls.callWith_builtin rfl (Calls.evalArgs_plain (Calls.spliced_cons (thn (he.run pins s1 σ H1 _ I1 q1) fun iv s2 ⟨y, H2, I2, ry, q2⟩ =>
    Calls.spliced_cons (thn (hf.run pins s2 σ H2 _ I2 q2) fun fv s3 ⟨z, H3, I3, rz, T, ob, ks, kvs, k, kd, b, g1, g2, g3, g4, g5, g6, q3, q4⟩ => Calls.spliced_nil ?_))))
  subst g3
  obtain rfl : iv = Value.ref b := ry
  obtain ⟨hsys, xs, np, dd⟩ := ndic_at I3 g1 g2
  refine getOr_keyed (room_n hu) ⟨nk_is I3 kd k _ _ g4 g6 rfl, g5⟩ hsys ⟨xs, dd, rfl⟩ ?_
  rw [valueAt_pairsH]
  rcases nlook g2 k np with ⟨e1, e2⟩ | ⟨d, v, p, e1, e2, e3, e4, _⟩
  · rw [e2]
    exact ⟨z, H3, I3.tok _, rz, q3 e1⟩
  · rw [e2]
    exact ⟨v, H3, I3.tok _, e3, q4 d v e1 e4⟩
/-- d[y] -/
def tNGet (K : PySem.W.Frag) (td ty : TE) : TE := fun σ H Q => td σ H fun x H0 => ty σ H0 fun y H2 => ∃ (T : Tkn) (a : Addr) (ob : Obj) (ks : List (NestedKey × Addr × V)) (kvs : List (List Int × D)) (k : NestedKey) (kd : D) (b : Addr) (d : D),
  x = .ref a ∧ H2 a = some (NDic a ob ks) ∧ NR K H2 kvs ks ∧ y = .ref b ∧ nkOf kd = some k ∧ k.depth ≤ 8 ∧ Rep K (fun _ => False) H2 kd (.ref b) ∧ nLook kvs k = some d ∧ ∀ v, Rep K (fun _ => False) H2 d v → Q v H2
theorem pe_nget {o i : Expr} {pos : Pos} {td ty : TE} (hu : X.A.units + 65 < cLine) (ho : PE X o td) (hi : PE X i ty) (hs : NoSl i) : PE X (.Subscript o i pos) (tNGet X.K td ty) := by
  refine ⟨fun pins s σ H Q I h => ?_⟩
  refine subD_of PySem.F.slot_dict_getitem.lookup hs (thn (ho.run pins s σ H _ I h) fun u s1 ⟨x, H1, I1, rx, q1⟩ => thn (hi.run pins s1 σ H1 _ I1 q1) fun iv s2 ⟨y, H2, I2, ry, T, a, ob, ks, kvs, k, kd, b, d, ex, g1, g2, g3, g4, g5, g6, g7, q2⟩ => ?_)
  subst ex
  subst g3
  obtain rfl : u = Value.ref a := rx
  obtain rfl : iv = Value.ref b := ry
  obtain ⟨hsys, xs, np, dd⟩ := ndic_at I2 g1 g2
  refine ⟨(ndic_is I2 g1).1, ?_⟩
  rcases nlook g2 k np with ⟨e1, e2⟩ | ⟨d', v, p, e1, e2, e3, e4, _⟩
  · rw [e1] at g7
    cases g7
  · rw [e1] at g7
    cases g7
    exact wpAny_getItem_heap (room_n hu) ⟨nk_is I2 kd k _ _ g4 g6 rfl, g5⟩ dd e2 ⟨v, H2, I2.tok _, e3, q2 v e4⟩
/-- y not in d -/
def tNNotIn (K : PySem.W.Frag) (ty td : TE) : TE := fun σ H Q => ty σ H fun y H1 => td σ H1 fun x H2 => ∃ (T : Tkn) (a : Addr) (ob : Obj) (ks : List (NestedKey × Addr × V)) (kvs : List (List Int × D)) (k : NestedKey) (kd : D) (b : Addr),
  x = .ref a ∧ H2 a = some (NDic a ob ks) ∧ NR K H2 kvs ks ∧ y = .ref b ∧ nkOf kd = some k ∧ k.depth ≤ 8 ∧ Rep K (fun _ => False) H2 kd (.ref b) ∧ Q (.bl (!(nLook kvs k).isSome)) H2
theorem pc_nnotin {o i : Expr} {td ty : TE} (hu : X.A.units + 65 < cLine) (hi : PE X i ty) (ho : PE X o td) : PC X .NotIn i o (tNNotIn X.K ty td) := by
  refine ⟨fun pins s σ H Q I h => ?_⟩
  refine thn (hi.run pins s σ H _ I h) fun iv s1 ⟨y, H1, I1, ry, q1⟩ => thn (ho.run pins s1 σ H1 _ I1 q1) fun u s2 ⟨x, H2, I2, rx, T, a, ob, ks, kvs, k, kd, b, ex, g1, g2, g3, g4, g5, g6, q2⟩ => ?_
  subst ex
  subst g3
  obtain rfl : u = Value.ref a := rx
  obtain rfl : iv = Value.ref b := ry
  obtain ⟨hsys, xs, np, dd⟩ := ndic_at I2 g1 g2
  refine notIn_keyed (room_n hu) ⟨nk_is I2 kd k _ _ g4 g6 rfl, g5⟩ hsys ⟨xs, dd, rfl⟩ ?_
  rw [valueAt_pairsH]
  have e : ((atKey xs k).map (·.2)).isSome = (nLook kvs k).isSome := by
    rcases nlook g2 k np with ⟨e1, e2⟩ | ⟨d', v, p, e1, e2, _⟩
    · rw [e1, e2]; rfl
    · rw [e1, e2]; rfl
  rw [e]
  exact ⟨.bl (!(nLook kvs k).isSome), H2, I2.tok _, rfl, q2⟩
/-- d[y] = v -/
def sNPutT (K : PySem.W.Frag) (td ty tv : TE) : TS := fun D σ H => tv σ H fun v H0 => td σ H0 fun x H1 => ty σ H1 fun y H2 => ∃ (T : Tkn) (a : Addr) (ob : Obj) (ks : List (NestedKey × Addr × V)) (kvs : List (List Int × Tg.D)) (k : NestedKey) (kd : Tg.D) (b : Addr) (d : Tg.D),
  x = .ref a ∧ H2 a = some (NDic a ob ks) ∧ NR K H2 kvs ks ∧ y = .ref b ∧ nkOf kd = some k ∧ k.depth ≤ 8 ∧ kd.flat = true ∧ Rep K (fun _ => False) H2 kd (.ref b) ∧ Rep K (fun _ => False) H2 d v ∧ d.flat = true ∧ kvs.length ≤ 60000 ∧
  ∀ o' ks', NR K H2 (nPut kvs kd d k) ks' → ¬ Fx (NDic a ob ks) → D.nx σ (upd H2 a (NDic a o' ks'))
theorem ps_nput {o i value : Expr} {pos pos' : Pos} {td ty tv : TE} (hu : X.A.units + 65 < cLine) (ho : PE X o td) (hi : PE X i ty) (hv : PE X value tv) (hs : swapsWith value (some (.Subscript o i pos')) pos.line X.env = pure false) :
    PS X (.Assign [.Subscript o i pos'] value pos) (sNPutT X.K td ty tv) := by
  refine ⟨fun pins s σ H D I h => ?_⟩
  refine wpAny_Assign_Subscript (thn (hv.run pins s σ H _ I h) fun r s1 ⟨v, H1, I1, rv, q1⟩ => thn (ho.run pins s1 σ H1 _ I1 q1) fun u s2 ⟨x, H2, I2, rx, q2⟩ => thn (hi.run pins s2 σ H2 _ I2 q2) fun iv s3 ⟨y, H3, I3, ry, T, a, ob, ks, kvs, k, kd, b, d, ex, g1, g2, g3, g4, g5, g6, g7, g8, g9, g10, q3⟩ => ?_) hs
  subst ex
  subst g3
  obtain rfl : u = Value.ref a := rx
  obtain rfl : iv = Value.ref b := ry
  obtain ⟨hsys, xs, np, dd⟩ := ndic_at I3 g1 g2
  have hz : xs.length ≤ sizeLine := by
    rw [← Paired.length np, g2.length]
    exact Nat.le_trans g10 (by decide)
  refine wpAny_setItem_heap (hsz := hz) (room_n hu) ⟨nk_is I3 kd k _ _ g4 g7 rfl, g5⟩ dd fun h' dd' hs => ?_
  obtain ⟨ks', n1, n2⟩ := nput g2 np g4 g5 g6 g7 g8 g9 rv
  obtain ⟨q, es, ep, hq, r⟩ := id dd'
  obtain ⟨o', ok⟩ := ndic_ok (X := X) hsys n2 dd'
  exact ⟨σ, _, d_write I3 (by rw [g1]; exact True.intro) hs ⟨q, hq⟩ (ok _), q3 o' ks' n1 (ndic_nfx I3 g1)⟩
end
end Tg

/-! Tg: slots with dicts of kind 3, the rules. -/
namespace Tg
open PySem PySem.Spec PyProof.Rows L2
/-- x = {} -/
def sNNew (i : Nat) : Sx := fun e => .ok (.nx (e.set i (some (.dct 3 []))))
/-- x.get(k, v) -/
def kNGetD2 (kvs : List (List Int × D)) (k z : S) : R S := match nKey k.d with
  | some g => if z.d.flat = true then .ok (.val ((nLook kvs g).getD z.d)) else .bad
  | none => .bad
def eNGetD (i : Nat) (n v : Ex) : Ex := fun e => match nctAt e i with
  | some kvs => (n e).bind fun k => (v e).bind (kNGetD2 kvs k)
  | none => .bad
/-- x[k] -/
def kNGet (kvs : List (List Int × D)) (k : S) : R S := match nKey k.d with
  | some g => (match nLook kvs g with
    | some d => .ok (.val d)
    | none => .bad)
  | none => .bad
def eNGet (i : Nat) (n : Ex) : Ex := fun e => match nctAt e i with
  | some kvs => (n e).bind (kNGet kvs)
  | none => .bad
/-- k not in x -/
def kNNotIn (kvs : List (List Int × D)) (k : S) : R S := match nKey k.d with
  | some g => .ok (.val (.bl (!(nLook kvs g).isSome)))
  | none => .bad
def eNNotIn (i : Nat) (n : Ex) : Ex := fun e => match nctAt e i with
  | some kvs => (n e).bind (kNNotIn kvs)
  | none => .bad
/-- x[k] = v -/
def kNPut2 (kvs : List (List Int × D)) (i : Nat) (e : En) (v k : S) : R Fl := match nKey k.d with
  | some g => if v.d.flat = true ∧ kvs.length ≤ 60000 then .ok (.nx (e.set i (some (.dct 3 (nPut kvs k.d v.d g))))) else .bad
  | none => .bad
def sNPut (i : Nat) (a n : Ex) : Sx := fun e => match nctAt e i with
  | some kvs => (a e).bind fun v => (n e).bind (kNPut2 kvs i e v)
  | none => .bad
section
variable {X : Cx} {W : Wi} {H0 : Hp} {Z0 : Addr → Prop} {lk : List Nat} {a b c : Expr} {m n v : Ex} {l k lz : List Nat} {pos p2 apos cpos epos : Pos} {x : Str}
theorem s_nnew (i : Nat) {p : Pos} (hN : X.N.Nodup) (hi : X.N[i]? = some x := by rfl) (hx : Loc X.env.scope x := by first | exact Or.inl rfl | exact Or.inr rfl) (hs : swapsWith (.Dict [] [] p2) (some (.Name x p)) pos.line X.env = pure false := by rfl) (hf : X.fn x = true ∨ X.env.scope.names.lookup x = some .local := by first | exact .inl rfl | exact .inr rfl | assumption) :
    SS X W H0 Z0 lk (.Assign [.Name x p] (.Dict [] [] p2) pos) (sNNew i) := by
  refine PS.imp (ps_set hN hi hx pe_nnew hs hf) ?_
  rintro D σ H ⟨T, Zl, Hb, e, ⟨s0, kp, Z, rt, h1, h2, r⟩, q⟩ p ob hp
  have sm : Same H (upd H p (NDic p ob [])) := same_new hp
  have r1 := r.ext sm
  have r2 := r1.setRoot i (s := .dct 3 []) trivial (q := p) (r.yg p hp) (fun g z => r.al g p z hp) (fun ds e => nomatch e) (fun t' kvs e => by cases e; exact ⟨_, upd_same, ⟨ob, [], rfl, .nil⟩⟩) (fun j u _ k hu z => (r.live k hu).1 (by rw [z]; exact hp)) (fun k z => (r.tks k p z).1 hp)
  exact q _ _ (.new s0 kp sm h1 h2 r2)
theorem x_ngetD (hu : X.A.units + 65 < cLine) (i : Nat) (hk : SE X W b n k) (hz : SE X W c v lz) (m2 : M2 X (.Name x p2) "get" apos b c cpos) (hN : X.N[i]? = some x := by rfl) (hv : Vis X.env.scope x := by first | exact Or.inl rfl | exact Or.inr (Or.inl rfl) | exact Or.inr (Or.inr rfl)) (hd : (x == ("__debug__" : Str)) = false := by decide) (hcd : (x == ("__classdict__" : Str)) = false := by decide) :
    SE X W (.Call (.Attribute (.Name x p2) "get" apos) [b, c] [] cpos) (eNGetD i n v) [] := by
  refine PE.imp (pe_ngetD hu (pe_var hN hv hd hcd) hk hz m2) fun σ H Q ⟨T, B, Z, rt, e, r, q⟩ => ?_
  unfold eNGetD at q
  cases hp : nctAt e i with
  | none => rw [hp] at q; exact q.elim
  | some kvs =>
  have hi := nctAt_some hp
  simp only [hp] at q
  obtain ⟨h1, h2, h3, o, h4, h5⟩ := r.dct i 3 kvs hi
  obtain ⟨ob, ks, e1, nr⟩ := h5.nst
  subst e1
  refine ⟨_, h1, rt i, ob, ks, rfl, h4, ?_⟩
  refine tE_go r (fun d hd => by rw [hd] at q; exact q) (fun hd => by rw [hd] at q; exact q) fun s y H1 hs sm r1 rs => ?_
  rw [hs, R.bind_ok] at q
  refine tE_go r1 (fun d hd c o H' sm2 => by rw [hd] at q; exact (fun z9 => q c o H' (sm.trans sm2) (z9.mo sm))) (fun hd => by rw [hd] at q; exact q) fun s2 y2 H2 hs2 sm2 r2 rs2 => ?_
  rw [hs2, R.bind_ok] at q
  unfold kNGetD2 at q
  have rd := rs.d (N := NZ W.g Z e rt k H) fun a z => .inr (.inl z)
  have rd2 := rs2.d (N := NZ W.g Z e rt lz H1) fun a z => .inr (.inl z)
  cases hk : nKey s.d with
  | none => simp only [hk] at q
  | some g =>
    simp only [hk] at q
    by_cases hf : s2.d.flat = true
    case neg =>
      rw [if_neg hf] at q
      exact q.elim
    rw [if_pos hf] at q
    obtain ⟨b', eb, nk, dp, fl, rb⟩ := nk_rep hk (rd.same sm2)
    refine ⟨T, ob, ks, kvs, g, s.d, b', sm2 _ _ (sm _ _ h4), nr.still (Same.still (sm.trans sm2)), eb, nk, dp, rb, fun e1 => ?_, fun d v e1 rv => ?_⟩
    · rw [e1] at q
      exact q _ H2 (sm.trans sm2) (Rep.flat (Still.refl _) _ _ hf rd2)
    · rw [e1] at q
      exact q _ H2 (sm.trans sm2) (Rep.mono (fun a z => z.elim) rv)
theorem x_nget (hu : X.A.units + 65 < cLine) (i : Nat) (hk : SE X W b n k) (hN : X.N[i]? = some x := by rfl) (hv : Vis X.env.scope x := by first | exact Or.inl rfl | exact Or.inr (Or.inl rfl) | exact Or.inr (Or.inr rfl)) (hd : (x == ("__debug__" : Str)) = false := by decide) (hcd : (x == ("__classdict__" : Str)) = false := by decide) (hs : NoSl b := by exact fun _ _ => rfl) :
    SE X W (.Subscript (.Name x p2) b pos) (eNGet i n) [] := by
  refine PE.imp (pe_nget hu (pe_var hN hv hd hcd) hk hs) fun σ H Q ⟨T, B, Z, rt, e, r, q⟩ => ?_
  unfold eNGet at q
  cases hp : nctAt e i with
  | none => rw [hp] at q; exact q.elim
  | some kvs =>
  have hi := nctAt_some hp
  simp only [hp] at q
  obtain ⟨h1, h2, h3, o, h4, h5⟩ := r.dct i 3 kvs hi
  obtain ⟨ob, ks, e1, nr⟩ := h5.nst
  subst e1
  refine ⟨_, h1, ?_⟩
  refine tE_go r (fun d hd => by rw [hd] at q; exact q) (fun hd => by rw [hd] at q; exact q) fun s y H1 hs sm r1 rs => ?_
  rw [hs, R.bind_ok] at q
  unfold kNGet at q
  have rd := rs.d (N := NZ W.g Z e rt k H) fun a z => .inr (.inl z)
  cases hk : nKey s.d with
  | none => simp only [hk] at q
  | some g =>
    simp only [hk] at q
    obtain ⟨b', eb, nk, dp, fl, rb⟩ := nk_rep hk rd
    cases hl : nLook kvs g with
    | none => simp only [hl] at q
    | some d =>
      simp only [hl] at q
      exact ⟨T, rt i, ob, ks, kvs, g, s.d, b', d, rfl, sm _ _ h4, nr.still (Same.still sm), eb, nk, dp, rb, hl, fun v rv => q _ H1 sm (Rep.mono (fun a z => z.elim) rv)⟩
theorem nin_sim {i : Nat} (σ : L2.St) (H : Hp) (Q : VK) (q : tE X.K W (eNNotIn i n) [] σ H Q) : tNNotIn X.K (tE X.K W n k) (tVar i) σ H Q := by
  obtain ⟨T, B, Z, rt, e, r, q⟩ := q
  unfold eNNotIn at q
  cases hp : nctAt e i with
  | none => rw [hp] at q; exact q.elim
  | some kvs =>
  have hi := nctAt_some hp
  simp only [hp] at q
  obtain ⟨h1, h2, h3, o, h4, h5⟩ := r.dct i 3 kvs hi
  obtain ⟨ob, ks, e1, nr⟩ := h5.nst
  subst e1
  refine tE_go r (fun d hd => by rw [hd] at q; exact q) (fun hd => by rw [hd] at q; exact q) fun s y H1 hs sm r1 rs => ?_
  refine ⟨_, h1, ?_⟩
  rw [hs, R.bind_ok] at q
  unfold kNNotIn at q
  have rd := rs.d (N := NZ W.g Z e rt k H) fun a z => .inr (.inl z)
  cases hk : nKey s.d with
  | none => simp only [hk] at q
  | some g =>
    simp only [hk] at q
    obtain ⟨b', eb, nk, dp, fl, rb⟩ := nk_rep hk rd
    exact ⟨T, rt i, ob, ks, kvs, g, s.d, b', rfl, sm _ _ h4, nr.still (Same.still sm), eb, nk, dp, rb, q _ H1 sm rfl⟩
theorem t_nnotIn (hu : X.A.units + 65 < cLine) (i : Nat) (hk : SE X W b n k) (hN : X.N[i]? = some x := by rfl) (hv : Vis X.env.scope x := by first | exact Or.inl rfl | exact Or.inr (Or.inl rfl) | exact Or.inr (Or.inr rfl)) (hd : (x == ("__debug__" : Str)) = false := by decide) (hcd : (x == ("__classdict__" : Str)) = false := by decide) :
    ST X W (.Compare b [.NotIn] [.Name x p2] pos) (tVal (eNNotIn i n)) := PT.imp (pt_cmp (pc_nnotin hu hk (pe_var hN hv hd hcd))) fun σ H Q q => nin_sim σ H _ (tVal_tE q)
theorem s_nput (hu : X.A.units + 65 < cLine) (i : Nat) {tpos : Pos} (ha : SE X W a m l) (hk : SE X W b n k) (hN : X.N[i]? = some x := by rfl) (hv : Vis X.env.scope x := by first | exact Or.inl rfl | exact Or.inr (Or.inl rfl) | exact Or.inr (Or.inr rfl)) (hd : (x == ("__debug__" : Str)) = false := by decide) (hcd : (x == ("__classdict__" : Str)) = false := by decide)
    (hs : swapsWith a (some (.Subscript (.Name x p2) b tpos)) pos.line X.env = pure false := by rfl) :
    SS X W H0 Z0 lk (.Assign [.Subscript (.Name x p2) b tpos] a pos) (sNPut i m n) := by
  refine PS.imp (ps_nput hu (pe_var hN hv hd hcd) hk ha hs) fun D σ H ⟨T, Zl, Hb, e, ⟨s0, kp, Z, rt, h1, h2, r0⟩, q⟩ => ?_
  unfold sNPut at q
  cases hp : nctAt e i with
  | none => rw [hp] at q; exact q.elim
  | some kvs =>
  have hi := nctAt_some hp
  simp only [hp] at q
  refine tE_go r0 (fun d hd c o H' sm => by rw [hd] at q; exact (fun z9 => q c o σ H' (s0.trans sm) (z9.mo s0))) (fun hd => by rw [hd] at q; exact q) fun s v H1 hs1 sm1 r1 rs1 => ?_
  rw [hs1, R.bind_ok] at q
  obtain ⟨j1, _⟩ := r0.dct i 3 kvs hi
  refine ⟨_, j1, ?_⟩
  refine tE_go r1 (fun d hd c o H' sm => by rw [hd] at q; exact (fun z9 => q c o σ H' ((s0.trans sm1).trans sm) (z9.mo (s0.trans sm1)))) (fun hd => by rw [hd] at q; exact q) fun s2 y H2 hs2 sm2 r2 rs2 => ?_
  rw [hs2, R.bind_ok] at q
  unfold kNPut2 at q
  cases hkey : nKey s2.d with
  | none => simp only [hkey] at q; exact q.elim
  | some g =>
    simp only [hkey] at q
    split at q
    case isFalse => exact q.elim
    rename_i hf
    obtain ⟨j1, j2, j3, o, j4, j5⟩ := r2.dct i 3 kvs hi
    obtain ⟨ob, ks, e1, nr⟩ := j5.nst
    subst e1
    have rv : Rep X.K (fun _ => False) H2 s.d v := Rep.flat (Still.refl _) s.d v hf.1 ((rs1.d (N := NZ W.g Z e rt l H) fun a z => .inr (.inl z)).same sm2)
    have rk := rs2.d (N := NZ W.g Z e rt k H1) fun a z => .inr (.inl z)
    obtain ⟨b', eb, nk, dp, fl, rb⟩ := nk_rep hkey rk
    refine ⟨T, rt i, ob, ks, kvs, g, s2.d, b', s.d, rfl, j4, nr, eb, nk, dp, fl, rb, rv, hf.1, hf.2, fun o' ks' nr' nfx => ?_⟩
    have st := still_d (o' := NDic (rt i) o' ks') j4 (fun xs z => by unfold NDic at z; cases z) nfx
    have rw' := r2.writeRoot hi trivial (s := .dct 3 (nPut kvs s2.d s.d g)) trivial st (fun ds e => nomatch e) (fun t' kvs' e => by cases e; exact (show DOb X.K H2 3 _ _ _ from ⟨o', ks', rfl, nr'⟩)) j1
    exact q σ _ (Body.wrR s0 kp (sm1.trans sm2) h1 h2 r2 hi trivial st rw')
end
end Tg

/-! Tg: a comprehension over the keys of a dict of kind 3. -/
namespace Tg
open PySem PySem.Spec PyProof.Rows L2
/-- J walks the data ds, as long as the heap only grows -/
structure ItRepS [T : Tkn] (K : PySem.W.Frag) (N : Addr → Prop) (H : Hp) (ds : List D) (J : It) : Prop where
  go : ∀ i H2, Same H H2 → i < ds.length → J.go i H2
  yld : ∀ (i : Nat) H2 x H3 d, Same H H2 → ds[i]? = some d → J.yld i H2 x H3 → Same H2 H3 ∧ Rep K N H3 d x
  stop : ∀ i H2, Same H H2 → ds.length ≤ i → i ≤ ds.length → J.stop i H2
def tIS (K : PySem.W.Frag) (W : Wi) (m : Ax) (l : List Nat) : TI := fun σ H R => ∃ (T : Tkn) (B : Addr → Prop) (Z : Nat → Addr → Prop) (rt : Nat → Addr) (e : En), Rel K B W.g Z rt e σ H ∧
  match m e with
  | .ok ds => ∀ J H', Same H H' → ItRepS K (fun a => NZ W.g Z e rt l H a ∧ H' a ≠ none) H' ds J → R J H'
  | .ex d => ∀ c o H', Same H H' → (XC W.xr H d c o H' → W.w c o σ H')
  | .bad => False
section
variable {X : Cx} {W : Wi}
theorem comp_simS {it : Ax} {al l lr : List Nat} {t : Tt} {c : Tx} {m : Ex} {ts vs : List Nat} {p : Nat} (hal : ∀ j ∈ al, W.g j = p) (hr1 : ∀ j ∈ l, j ∈ lr) (hr2 : (∀ j ∈ l, W.g j ≠ p) ∨ ∀ j ∈ al, j ∈ lr) (kt : TKeep t) (hts : ∀ i ∈ ts, i ∈ vs) (σ : L2.St) (H : Hp) (Q : VK) (q : tE X.K W (eComp al vs it t c m) lr σ H Q) :
    tLc (tIS X.K W it al) (tG X.K W.g p t ts) (tT X.K (W0 W.g) c) (tE X.K (W0 W.g) m l) vs σ H Q := by
  obtain ⟨T, B, Z, rt, e, r, q⟩ := q
  unfold eComp at q
  refine ⟨T, B, Z, rt, e, r, ?_⟩
  cases hit : it e with
  | bad => rw [hit] at q; exact q.elim
  | ex d => rw [hit] at q; exact q
  | ok ds =>
    rw [hit, R.bind_ok] at q
    intro J H1 sm ir D hD
    cases hc : compL t c m (wipeE (freeze al e) vs) ds with
    | bad => rw [hc] at q; exact q.elim
    | ex d => rw [hc] at q; exact q.elim
    | ok yf =>
      simp only [hc] at q
      by_cases hl : yf.length ≤ 65536
      case neg => rw [if_neg hl] at q; exact q.elim
      rw [if_pos hl] at q
      -- the block's environment
      have r1 : Rel X.K B W.g (ZN p Z e rt al H H1 fun _ => False) rt (wipeE (freeze al e) vs) (L2.wipe σ vs) H1 := (r.grow sm p al hal _).wipe vs
      have z1 : ∀ a, (NZ W.g Z e rt al H a ∧ H1 a ≠ none) → ZN p Z e rt al H H1 (fun _ => False) p a := fun a ⟨n, k⟩ => zn_sub hal n (fun z => z) k
      have zD : ∀ g, ¬ ZN p Z e rt al H H1 (fun _ => False) g D := fun g z => r1.al g D z hD
      -- the nodes of what is made
      let NE : Addr → Prop := fun a => NZ W.g Z e rt lr H a ∧ a ≠ D
      refine ⟨fun i n H2 => n = ds.length - i ∧ i ≤ ds.length ∧ Same H1 H2 ∧ ∃ acc ys rest, H2 D = some (.lst acc) ∧ RepL X.K NE H2 ys acc ∧ compL t c m (wipeE (freeze al e) vs) (ds.drop i) = .ok rest ∧ yf = ys ++ rest,
        ⟨ds.length, by simp, Nat.zero_le _, same_new hD, [], [], yf, upd_same, rfl, hc, rfl⟩, ?_⟩
      rintro i n H2 ⟨rfl, hi, sm2, acc, ys, rest, hacc, hys, hrest, hyf⟩
      have acl : acc.length ≤ 65536 := by
        rw [hys.length]
        rw [hyf, List.length_append] at hl
        omega
      by_cases hlt : i < ds.length
      · have hd : ds[i]? = some ds[i] := List.getElem?_eq_getElem hlt
        rw [List.drop_eq_getElem_cons hlt] at hrest
        obtain ⟨e', ht, hcase⟩ := compL_cons t c m _ _ _ hrest
        refine .inr ⟨ir.go i H2 sm2 hlt, fun H' => Same H1 H' ∧ ∃ acc ys rest, H' D = some (.lst acc) ∧ RepL X.K NE H' ys acc ∧ compL t c m (wipeE (freeze al e) vs) (ds.drop (i + 1)) = .ok rest ∧ yf = ys ++ rest,
          fun H' h' => ⟨ds.length - (i + 1), by omega, rfl, hlt, h'⟩, fun x H3 hy => ?_⟩
        obtain ⟨sm3, rx⟩ := ir.yld i H2 x H3 ds[i] sm2 hd hy
        refine ⟨T, B, _, rt, _, ds[i], r1.ext (sm2.trans sm3), rx.mono z1, ?_⟩
        rw [ht]
        intro σ' r' o'
        refine ⟨o'.wipe hts, T, B, _, rt, e', r', ?_⟩
        have back : ∀ a, Root e' rt l a → Root e rt lr a ∧ H1 a ≠ none := fun a ⟨j, hj, qq⟩ => by
          rcases qq with ⟨⟨es, q1⟩, ea⟩ | ⟨⟨os2, q1⟩, ek⟩
          case inr =>
            have q2 := kt _ _ _ ht j _ rfl q1
            obtain ⟨q3, _⟩ := freeze_sto (wipeE_own q2)
            have q4 : Root e rt lr a := ⟨j, hr1 j hj, .inr ⟨⟨os2, q3⟩, ek⟩⟩
            obtain ⟨_, xs, h⟩ := r.root q4
            exact ⟨q4, by rw [sm _ _ h]; exact nofun⟩
          have q2 := kt _ _ _ ht j _ rfl q1
          obtain ⟨q3, _⟩ := freeze_own (wipeE_own q2)
          have q4 : Root e rt lr a := ⟨j, hr1 j hj, .inl ⟨⟨es, q3⟩, ea⟩⟩
          obtain ⟨_, xs, h⟩ := r.root q4
          exact ⟨q4, by rw [sm _ _ h]; exact nofun⟩
        rcases hcase with ⟨h1, h2⟩ | ⟨y, zs, h1, h2, h3, h4⟩
        · rw [h1]
          intro H4 sm4
          rw [if_neg Bool.false_ne_true]
          have s24 := sm3.trans sm4
          exact ⟨sm2.trans s24, acc, ys, rest, s24 _ _ hacc, hys.same s24, h2, hyf⟩
        · rw [h1]
          intro H4 sm4
          rw [if_pos rfl]
          refine ⟨T, B, _, rt, e', r'.ext sm4, ?_⟩
          rw [h2]
          intro v H5 sm5 rv
          have s25 := (sm3.trans sm4).trans sm5
          have hD5 : H5 D = some (.lst acc) := s25 _ _ hacc
          refine ⟨acc, hD5, Nat.lt_of_le_of_lt acl (by decide), ?_, acc ++ [v], ys ++ [y.d], zs, upd_same, ?_, h3, ?_⟩
          · intro b o z
            rw [upd_ne (ne_of_none z hD)]
            exact s25 _ _ (sm2 _ _ z)
          · have st : Still H5 (upd H5 D (.lst (acc ++ [v]))) := still_lst hD5
            have up : ∀ {N : Addr → Prop} {ds : List Tg.D} {xs : List V}, (∀ a, N a → NE a) → RepL X.K N H5 ds xs → RepL X.K NE (upd H5 D (.lst (acc ++ [v]))) ds xs := fun hN h => RepL.imp (fun a xs n k => ⟨hN a n, by rw [upd_ne (hN a n).2]; exact k⟩) st _ _ h
            refine (up (fun a n => n) (hys.same s25)).append ?_
            have rvd : Rep X.K (fun a => NE a) H5 y.d v := by
              have n4 : ∀ a, NZ W.g (ZN p Z e rt al H H1 fun _ => False) e' rt l H4 a → NZ W.g Z e rt lr H a ∧ (H4 a ≠ none → a ≠ D) := fun a n => by
                rcases n with ⟨j, hj, n⟩ | n | n
                · refine ⟨?_, fun _ w => zD _ (w ▸ n)⟩
                  rcases n with n | ⟨ep, ⟨n, _⟩ | ⟨i, hi, n⟩⟩
                  · exact .inl ⟨j, hr1 j hj, n⟩
                  · exact .inr (.inl n)
                  · rcases hr2 with h | h
                    · exact absurd ep (h j hj)
                    · exact .inr (.inr ⟨i, h i hi, n⟩)
                · exact ⟨.inr (.inl ((sm.trans (sm2.trans (sm3.trans sm4))).free n)), fun k => absurd n k⟩
                · obtain ⟨n1, n2⟩ := back a n
                  exact ⟨.inr (.inr n1), fun _ w => n2 (w ▸ hD)⟩
              have hD4 : H4 D ≠ none := by rw [(sm3.trans sm4) _ _ hacc]; exact nofun
              have nd : ∀ a, NZ W.g (ZN p Z e rt al H H1 fun _ => False) e' rt l H4 a → NE a := fun a n => ⟨(n4 a n).1, fun w => by
                subst w
                exact (n4 a n).2 hD4 rfl⟩
              exact (rv.mono nd).d fun a z => ⟨.inr (.inl ((sm.trans (sm2.trans (sm3.trans sm4))).free z)), fun w => hD4 (w ▸ z)⟩
            exact up (fun a n => n) (RepL.one rvd)
          · rw [hyf, h4, List.append_assoc]
            rfl
      · have ei : i = ds.length := by omega
        refine .inl ⟨ir.stop i H2 sm2 (by omega) (by omega), ?_⟩
        rw [ei, List.drop_length] at hrest
        cases hrest
        rw [List.append_nil] at hyf
        subst hyf
        exact q _ H2 (sm.trans sm2) ⟨D, acc, rfl, sm.free hD, hacc, hys⟩
end
/-- the keys of the dict at a, its object o -/
def Itn (a : Addr) (o : Obj) (ks : List (NestedKey × Addr × V)) : It :=
  ⟨fun i H => H a = some (NDic a o ks) ∧ i < ks.length, fun i H x H' => H' = H ∧ ∃ p, ks[i]? = some p ∧ x = .ref p.2.1, fun i H => H a = some (NDic a o ks) ∧ ks.length ≤ i⟩
theorem npair_get {ks : List (NestedKey × Addr × V)} {xs : List (NestedKey × Addr × Value)} (np : NPair ks xs) : ∀ {i : Nat} {p : NestedKey × Addr × V}, ks[i]? = some p → ∃ q, xs[i]? = some q ∧ p.2.1 = q.2.1 := by
  induction np with
  | nil => intro i p h; simp at h
  | cons a _ ih =>
    intro i p h
    cases i with
    | zero => cases h; exact ⟨_, rfl, a.2.1⟩
    | succ i => exact ih (i := i) h
theorem ndic_raw {X : Cx} {pins : List (Addr × Obj)} {σ : L2.St} {H : Hp} {s : Shared} {a : Addr} {o : Obj} {ks : List (NestedKey × Addr × V)} {es : Array DictEntry} {ep : Nat} (I : Inv X pins σ H s) (h : H a = some (NDic a o ks)) (hd : o.data = .dict es ep) :
    (a == sysModules) = false ∧ s.heap.DictRaw a es ep ∧ es.size = ks.length ∧ ∀ (i : Nat) (p : NestedKey × Addr × V), ks[i]? = some p → ∃ e : DictEntry, es[i]? = some e ∧ e.key = Value.ref p.2.1 := by
  obtain ⟨⟨hsys, w0, xs, np, es', ep', ho, hex, hd', hes, nd⟩, _, _⟩ := I.hok a _ h
  rw [hd] at hd'
  cases hd'
  refine ⟨hsys, ⟨o, ho, hex, hd⟩, ?_, fun i p hp => ?_⟩
  · rw [← Array.length_toList, hes, List.length_map, ← Paired.length np]
  · obtain ⟨q, hq, e⟩ := npair_get np hp
    have z : es.toList[i]? = some (⟨q.1.hash w0, .ref q.2.1, q.2.2⟩ : DictEntry) := by rw [hes, List.getElem?_map, hq]; rfl
    rw [Array.getElem?_toList] at z
    exact ⟨_, z, by rw [e]⟩
theorem turn_n {P : Program} {w : World} {K : PySem.W.Frag} {tg : Expr} {a it : Addr} {o : Obj} {ks : List (NestedKey × Addr × V)} {es : Array DictEntry} {ep : Nat} (hd : o.data = .dict es ep) : Turn P w K tg (Itn a o ks) [it] it (fun i h => h.IsKeyIter it a i es.size ep) where
  mem := by simp
  obj := fun i h st b hb => by
    have e : b = it := by simpa using hb
    subst e
    obtain ⟨o, e, c, d⟩ := st
    exact ⟨o, e, fun v z => by rw [d] at z; cases z⟩
  keep := fun i h h' st k => let ⟨o, e, r⟩ := st; ⟨o, k it (by simp) o e, r⟩
  item := by
    intro X hP hw hK hc i pins s σ H E I hf st hg
    subst hP hw hK
    obtain ⟨ha, hi⟩ := hg
    obtain ⟨hsys, raw, hsz, key⟩ := ndic_raw I ha hd
    obtain ⟨f0, f1, f2, f3, f4, f5⟩ := hf it (by simp)
    have hlt : i < es.size := by rw [hsz]; exact hi
    obtain ⟨e, h1, h2⟩ := key i _ (List.getElem?_eq_getElem hi)
    rw [Array.getElem?_eq_getElem hlt] at h1
    have h3 : es[i].key = Value.ref ks[i].2.1 := by rw [Option.some.inj h1]; exact h2
    refine wpAny_pyNext_keys_item_raw st raw hlt fun h' st' sb => ?_
    have I1 : Inv X pins σ H { s with heap := h' } := I.turned (t' := s.toks) (fun b o hb e => (sb.2 b hb).trans e) f0 f1 f3 f4 f5
    obtain ⟨o', e', c, d⟩ := id st'
    exact ⟨_, rfl, go_of (s := { s with heap := h' }) e' c d (by decide) ⟨.ref ks[i].2.1, H, I1, h3, ⟨rfl, ks[i], List.getElem?_eq_getElem hi, rfl⟩, st', fun b hb => (hf b hb).1⟩⟩
  done := by
    intro X hP hw hK hc i pins s σ H E I hf st hg
    subst hP hw hK
    obtain ⟨ha, hi⟩ := hg
    obtain ⟨hsys, raw, hsz, key⟩ := ndic_raw I ha hd
    obtain ⟨f0, f1, f2, f3, f4, f5⟩ := hf it (by simp)
    exact wpAny_pyNext_keys_end_raw (I.ok.hd hc) st raw (by rw [hsz]; exact hi) fun h' eb => ⟨rfl, I.turned (t' := s.toks) (fun b o hb e => eb b o hb e) f0 f1 f3 f4 f5⟩
  self := fun A i s Q E st h => wpAny_pyIter_keyiter st h
end Tg

/-! Tg: x = [.. for k in d], d a dict of kind 3. -/
namespace Tg
open PySem PySem.Spec PyProof.Rows L2
def keyN (q : List Int × D) : D := match q.2 with
  | .tup [k, _] => k
  | _ => .non
def aNKeys (i : Nat) : Ax := fun e => match nctAt e i with
  | some kvs => .ok (kvs.map keyN)
  | none => .bad
theorem NR.keys {T : Tkn} {K : PySem.W.Frag} {H : Hp} {kvs : List (List Int × D)} {ks : List (NestedKey × Addr × V)} (r : NR K H kvs ks) : ∀ {i : Nat} {d : D} {p : NestedKey × Addr × V}, (kvs.map keyN)[i]? = some d → ks[i]? = some p → Rep K (fun _ => False) H d (.ref p.2.1) := by
  induction r with
  | nil => intro i d p h _; simp at h
  | cons h1 h2 h3 h4 h5 h6 _ ih =>
    intro i d p h g
    cases i with
    | zero =>
      cases h
      cases g
      exact h4
    | succ i => exact ih (i := i) h g
section
variable {X : Cx} {W : Wi} {tg : Expr} {p pos : Pos} {x : Str}
theorem pi_nkeys (i : Nat) (hN : X.N[i]? = some x) (hv : Vis X.env.scope x) (hd : (x == ("__debug__" : Str)) = false) (hcd : (x == ("__classdict__" : Str)) = false) :
    PI X tg (.Name x p) (fun σ H R => ∃ a o ks, σ[i]? = some (some (.ref a)) ∧ H a = some (NDic a o ks) ∧ R (Itn a o ks) H) := by
  refine ⟨fun pins s σ H R I ⟨a, o, ks, hs, ha, q⟩ => ?_⟩
  refine thn ((pe_var (pos := p) (i := i) hN hv hd hcd).run pins s σ H (fun v H1 => v = .ref a ∧ H1 = H) I ⟨.ref a, hs, rfl, rfl⟩) fun v s1 ⟨x, H1, I1, r1, e1, e2⟩ => ?_
  subst e1
  subst e2
  obtain rfl : v = Value.ref a := r1
  obtain ⟨⟨_, _, _, _, es, ep, _, _, hdat, _, _⟩, _, _⟩ := I1.hok a _ ha
  obtain ⟨hsys, raw, _, _⟩ := ndic_raw I1 ha hdat
  refine wpAny_pyIter_dict_raw hsys raw ?_
  refine ⟨s1.heap.objs.size, [s1.heap.objs.size], _, _, H1, rfl, I1.kept (t' := s1.toks) fun b o e => Heap.get?_push_of_some _ e, turn_n hdat, ⟨_, Heap.get?_push_size _ rfl, rfl, rfl⟩, fun b hb => ?_, q⟩
  have e : b = s1.heap.objs.size := by simpa using hb
  subst e
  exact I1.fpOk (Nat.le_refl _) (I1.hok.fresh (Nat.le_refl _))
theorem i_nkeys (i : Nat) (hN : X.N[i]? = some x := by rfl) (hv : Vis X.env.scope x := by first | exact Or.inl rfl | exact Or.inr (Or.inl rfl) | exact Or.inr (Or.inr rfl)) (hd : (x == ("__debug__" : Str)) = false := by decide) (hcd : (x == ("__classdict__" : Str)) = false := by decide) :
    PI X tg (.Name x p) (tIS X.K W (aNKeys i) []) := by
  refine PI.imp (pi_nkeys i hN hv hd hcd) fun σ H R ⟨T, B, Z, rt, e, r, q⟩ => ?_
  unfold aNKeys at q
  cases hp : nctAt e i with
  | none => rw [hp] at q; exact q.elim
  | some kvs =>
  have hi := nctAt_some hp
  simp only [hp] at q
  obtain ⟨h1, h2, h3, o, h4, h5⟩ := r.dct i 3 kvs hi
  obtain ⟨ob, ks, e1, nr⟩ := h5.nst
  subst e1
  refine ⟨rt i, ob, ks, h1, h4, q _ H (Same.refl H) ⟨fun j H2 sm hj => ⟨sm _ _ h4, by rw [nr.length]; simpa using hj⟩, fun j H2 y H3 d sm hd ⟨e2, pp, g1, g2⟩ => ?_, fun j H2 sm hj _ => ⟨sm _ _ h4, by rw [nr.length]; simpa using hj⟩⟩⟩
  subst e2
  subst g2
  exact ⟨Same.refl _, Rep.mono (fun a z => z.elim) ((nr.still (Same.still sm)).keys hd g1)⟩
theorem s_setLcN (i : Nat) {H0 : Hp} {Z0 : Addr → Prop} {lk : List Nat} {y : Str} {py : Pos} {elt tg iter : Expr} {ifs : List Expr} {scope : Scope} {own : List (Str × Nat)} {pos spos : Pos} {it : Ax} {l : List Nat} {t : Tt} {c : Tx} {m : Ex} {ts : List Nat} (pg : Nat) (kt : TKeep t) (hc : X.calm = true) (hN : X.N.Nodup) (hi : PI X tg iter (tIS X.K W it [])) (ok : BlkOk X.N X.env.scope scope own)
    (hg : ∀ (s : Shared) (H : Hp) (C : Addr) (cl : List (Str × Addr)) (fp : List Addr), SG (X.blk s H scope (compEnvC scope cl C X.env) fp) W.g pg tg t ts) (ht : ∀ (s : Shared) (H : Hp) (C : Addr) (cl : List (Str × Addr)) (fp : List Addr), PTs (X.blk s H scope (compEnvC scope cl C X.env) fp) ifs (tT X.K (W0 W.g) c))
    (he : ∀ (s : Shared) (H : Hp) (C : Addr) (cl : List (Str × Addr)) (fp : List Addr), SE (X.blk s H scope (compEnvC scope cl C X.env) fp) (W0 W.g) elt m l) (hsw : swapsWith (.ListComp elt [⟨tg, iter, ifs, 0⟩] scope pos) (some (.Name y py)) spos.line X.env = pure true) (hl : allg W.g (W.g i) l = true := by rfl) (hts : ∀ i ∈ ts, i ∈ own.map (·.2) := by decide)
    (hy : X.N[i]? = some y := by rfl) (hyl : X.env.scope.names.lookup y = some .local := by rfl) (hs : ∀ x, foldedSetIterable iter X.env x = pure x := by intro _; rfl) :
    SS X W H0 Z0 lk (.Assign [.Name y py] (.ListComp elt [⟨tg, iter, ifs, 0⟩] scope pos) spos) (sSet l i (eComp [] (own.map (·.2)) it t c m)) :=
  PS.imp (ps_setLc hc hN hy hyl hsw hi ok (fun s H C cl fp => (hg s H C cl fp).pg) ht he hs) fun D σ H q => comp_simS (p := pg) (fun j hj => absurd hj (List.not_mem_nil)) (fun j hj => hj) (.inr fun j hj => absurd hj (List.not_mem_nil)) kt hts σ H _ (set_sim (allg_of hl) D σ H q)
end
end Tg

/-! Tg: a law's last statement: return g(f(..), y) and c, f a def that makes codes. -/
namespace Tg
open PySem PySem.Spec PyProof.Rows L2
def kLast3 (mc : Ex) (e : En) (s : S) : R Fl := match s.d with
  | .bl true => (mc e).bind fun s4 => match s4.d with
    | .bl c => .ok (.rt (.val (.bl c)))
    | _ => .bad
  | .bl false => .ok (.rt (.val (.bl false)))
  | _ => .bad
def sLastT (a md : Ex) (FL : List D → R S) (mc : Ex) : Sx := fun e => (a e).bind fun s => match s with
  | .own rs => if D.flatL rs = true then (md e).bind fun s2 => (FL [.lst rs, s2.d]).bind (kLast3 mc e) else .bad
  | _ => .bad
theorem kLast3_true {mc : Ex} {e : En} {s : S} (h : kLast3 mc e s = .ok (.rt (.val (.bl true)))) : s.d = .bl true ∧ ∃ s4, mc e = .ok s4 ∧ s4.d = .bl true := by
  unfold kLast3 at h
  split at h
  · rename_i hd
    refine ⟨hd, ?_⟩
    cases hm : mc e with
    | bad => rw [hm] at h; cases h
    | ex d => rw [hm] at h; cases h
    | ok s4 =>
      rw [hm, R.bind_ok] at h
      refine ⟨s4, rfl, ?_⟩
      split at h
      · rename_i c hc
        cases h
        exact hc
      · cases h
  · cases h
  · cases h
section
variable {X : Cx} {W : Wi} {P : Addr} {q : Str} {xr : Hp → D → Value → Option Addr → Hp → Prop}
theorem b_lastL {n k k2 : Nat} {f g : Str} {F FL : List D → R S} {m : Ax} {md mc : Ex} {l ld lc : List Nat} {e due cmp : Expr} {es : List Expr} {pf pg cpos gpos bpos pos : Pos} (C : CalT X.prog X.w X.K X.mg X.base P q k f F n) (hr : Room k X.A) (G : Cal X.prog X.w X.K X.mg X.base xr k2 g FL 2) (hr2 : Room k2 X.A) (tk : Takes X W.w)
    (ha : SA X W (e :: es) m l) (hl : ∀ e ds, m e = .ok ds → ds.length = n) (hd : SE X W due md ld) (hc : SE X W cmp mc lc)
    (hgf : Gl X f := by rfl) (hgg : Gl X g := by rfl) (hdf : (f == ("__debug__" : Str)) = false := by decide) (hdg : (g == ("__debug__" : Str)) = false := by decide)
    (he1 : starEach (e :: es) X.env = (false, eval e X.env) :: starEach es X.env := by rfl) (hp1 : (backTo cpos (starEach es X.env)).any (·.1) = false := by rfl)
    (he2 : starEach [.Call (.Name f pf) (e :: es) [] cpos, due] X.env = (false, eval (.Call (.Name f pf) (e :: es) [] cpos) X.env) :: starEach [due] X.env := by rfl) (he3 : starEach [due] X.env = (false, eval due X.env) :: starEach [] X.env := by rfl) (hp2 : (backTo gpos (starEach [due] X.env)).any (·.1) = false := by rfl) :
    PSs X [.Return (some (.BoolOp .And [.Call (.Name g pg) [.Call (.Name f pf) (e :: es) [] cpos, due] [] gpos, cmp] bpos)) pos] (tL X.K P q W (sLastT (eCall F m) md FL mc)) := by
  obtain ⟨fa, fd, ps, Tf, hm1, kp1, hb1⟩ := C
  obtain ⟨ga, gd, qs, Gf, hm2, kp2, hb2⟩ := G
  refine PSs.imp (pss_one (ps_ret (pe_and (pe_callS Gf hr2 hgg hm2 kp2 hb2 (fun σ => passAt tk σ) (pa_cons (pe_callS Tf hr hgf hm1 kp1 hb1 (fun σ => passAt tk σ) ha hdf he1 hp1) (pa_cons hd pa_nil he3) he2) hdg he2 hp2) (pe_one hc)))) fun D σ H ⟨H0, Z0, T, Zl, Hb, en, t0, ⟨s0, kp0, Z, rt, h1, h2, r⟩, hm, fin⟩ => ?_
  unfold sLastT eCall at hm
  cases hA : m en with
  | bad => rw [hA] at hm; cases hm
  | ex d => rw [hA] at hm; cases hm
  | ok ds =>
    rw [hA, R.bind_ok] at hm
    cases hF : F ds with
    | bad => rw [hF] at hm; cases hm
    | ex d => rw [hF] at hm; cases hm
    | ok s =>
      rw [hF, R.bind_ok] at hm
      cases s with
      | val _ => cases hm
      | dct _ _ => cases hm
      | sto _ _ => cases hm
      | both _ _ => cases hm
      | own rs =>
      cases hfl' : Tg.D.flatL rs with
      | false => simp only [hfl'] at hm; cases hm
      | true =>
      simp only [hfl', if_true] at hm
      cases hM : md en with
      | bad => rw [hM] at hm; cases hm
      | ex d => rw [hM] at hm; cases hm
      | ok s2 =>
      rw [hM, R.bind_ok] at hm
      cases hL : FL [.lst rs, s2.d] with
      | bad => rw [hL] at hm; cases hm
      | ex d => rw [hL] at hm; cases hm
      | ok s3 =>
      rw [hL, R.bind_ok] at hm
      obtain ⟨e3, s4, hC, e4⟩ := kLast3_true hm
      refine tA_go r (fun d hd => by rw [hA] at hd; cases hd) (fun hd => by rw [hA] at hd; cases hd) fun ds' xs H1 hs' sm r1 rs1 => ?_
      rw [hA] at hs'
      cases hs'
      have s1 := s0.trans sm
      have t1 := tab_same t0 s1
      refine ⟨t1, T, _, ds, r1.tok, by rw [rs1.length]; exact hl en ds hA, rs1, _, hF, fun v H2 sb rv => ?_⟩
      obtain ⟨ro, ys, rfl, hro, hro2, rep⟩ := rv
      have r2 := r1.rebase t0 s1 sb
      refine tE_go r2 (fun d hd => by rw [hM] at hd; cases hd) (fun hd => by rw [hM] at hd; cases hd) fun s2' y H3 hs2 sm3 r3 rs3 => ?_
      rw [hM] at hs2
      cases hs2
      have rd3 := Rep.mono (N' := fun a => True) (fun a _ => trivial) (rs3.d fun a z => .inr (.inl z))
      refine ⟨T, fun a => True, [.lst rs, s2.d], r3.tok, rfl, ⟨_, _, rfl, ⟨ro, ys, rfl, ⟨trivial, sm3 _ _ hro2⟩, RepL.flat (Same.still sm3) _ _ hfl' rep⟩, _, _, rfl, rd3, rfl⟩, ?_⟩
      · rw [hL]
        intro z H4 sm4 rz
        have rz2 := rz.d (fun a z => .inr z)
        rw [e3] at rz2
        obtain rfl : z = .bl true := rz2
        refine ⟨true, rfl, ?_⟩
        rw [if_pos rfl]
        refine tE_go (r3.ext sm4) (fun d hd => by rw [hC] at hd; cases hd) (fun hd => by rw [hC] at hd; cases hd) fun s5 v H5 hs5 sm5 r5 rs5 => ?_
        rw [hC] at hs5
        cases hs5
        have rv5 := rs5.d (fun a z => .inr (.inl z))
        rw [e4] at rv5
        obtain rfl : v = .bl true := rv5
        exact fin H5
end
end Tg

/-! Tg: sets of nested tuples of ints, as they are filled with things that all differ. -/
namespace Tg
open PySem PySem.Spec PyProof.Rows
/-! keys without texts -/
mutual
def intK : NestedKey → Bool
  | .num _ => true
  | .tup ks => intKs ks
  | .none => false
  | .text _ => false
def intKs : List NestedKey → Bool
  | [] => true
  | k :: r => intK k && intKs r
end
mutual
theorem nk_int : ∀ (d : D) (k : NestedKey), nkOf d = some k → intK k = true
  | .int i, k, h => by
    simp only [nkOf, Option.some.injEq] at h
    rw [← h, intK]
  | .tup ds, k, h => by
    simp only [nkOf] at h
    split at h
    · rename_i ks hk
      cases h
      rw [intK]
      exact nks_int ds ks hk
    · cases h
  | .non, k, h => by simp [nkOf] at h
  | .bl _, k, h => by simp [nkOf] at h
  | .str _, k, h => by simp [nkOf] at h
  | .lst _, k, h => by simp [nkOf] at h
  | .scr _, k, h => by simp [nkOf] at h
  | .exc _ _, k, h => by simp [nkOf] at h
  | .jnk, k, h => by simp [nkOf] at h
  | .opq _, k, h => by simp [nkOf] at h
theorem nks_int : ∀ (ds : List D) (ks : List NestedKey), nkAll ds = some ks → intKs ks = true
  | [], ks, h => by
    simp only [nkAll, Option.some.injEq] at h
    rw [← h, intKs]
  | d :: r, ks, h => by
    simp only [nkAll] at h
    split at h
    · rename_i k ks' h1 h2
      cases h
      rw [intKs, nk_int d k h1, nks_int r ks' h2]
      rfl
    · cases h
end
section
variable {P : Program} {w : World}
/-- asked at any state like s, m levels down: f answers b -/
def Ans (P : Program) (w : World) (f : Nat → Value → Sem Bool) (b : Bool) (m : Nat) (s : Shared) (v : Value) : Prop := ∀ (A : Around) (E : Value → Shared → Prop) (Q : Bool → Shared → Prop), Q b s → wpAny (model P w) A (f m v) Q E s
theorem by_tup {m : Nat} {s : Shared} {a : Addr} {o : Obj} {vs : Array Value} {n : Nat} (ho : s.heap.get? a = some o) (hc : o.cls = .type "tuple") (hd : o.data = .seq vs n) (all : ∀ v ∈ vs.toList, Ans P w hashByValue true m s v) : Ans P w hashByValue true (m + 1) s (.ref a) := by
  intro A E Q h
  have ty : s.TypeIs (.ref a) "tuple" := ⟨o, ho, hc⟩
  unfold hashByValue
  refine wpAny_bind (wpAny_specialOf ty F.slot_tuple_hash.lookup ?_)
  show wpAny _ _ (seqItems? (.ref a) >>= _) _ _ s
  refine wpAny_bind (wpAny_seqItems ho hd (wpAny_bind ?_))
  show wpAny _ _ (forIn vs _ _) _ _ s
  rw [← Array.forIn_toList]
  refine wpAny_forIn_list _ (fun l r t => r.1 = none ∧ t = s ∧ ∀ v ∈ l, Ans P w hashByValue true m s v) _ (fun v l r t ⟨e1, e2, q⟩ => ?_) (fun r t ⟨e1, e2, _⟩ => ?_) _ _ ⟨rfl, rfl, all⟩
  · rw [e2]
    refine wpAny_bind (q v List.mem_cons_self _ _ _ ?_)
    simp only [Bool.not_true, Bool.false_eq_true, if_false]
    exact wpAny_pure ⟨rfl, rfl, fun u hu => q u (List.mem_cons_of_mem _ hu)⟩
  · obtain ⟨r1, r2⟩ := r
    cases show r1 = none from e1
    rw [e2]
    exact wpAny_pure h
theorem cl_tup {m : Nat} {s : Shared} {a : Addr} {o : Obj} {vs : Array Value} {n : Nat} (ho : s.heap.get? a = some o) (hc : o.cls = .type "tuple") (hd : o.data = .seq vs n) (all : ∀ v ∈ vs.toList, Ans P w ofAClassStatement false m s v) : Ans P w ofAClassStatement false (m + 1) s (.ref a) := by
  intro A E Q h
  have ty : s.TypeIs (.ref a) "tuple" := ⟨o, ho, hc⟩
  unfold ofAClassStatement
  refine wpAny_bind (wpAny_typeOf ty ?_)
  simp only [show (("tuple" : String) == "tuple") = true by decide, if_true, pure_bind, Bool.not_true, Bool.false_eq_true, if_false]
  refine wpAny_bind (wpAny_seqItems ho hd ?_)
  dsimp only
  refine wpAny_bind ?_
  show wpAny _ _ (forIn vs _ _) _ _ s
  rw [← Array.forIn_toList]
  refine wpAny_forIn_list _ (fun l r t => r.1 = none ∧ t = s ∧ ∀ v ∈ l, Ans P w ofAClassStatement false m s v) _ (fun v l r t ⟨e1, e2, q⟩ => ?_) (fun r t ⟨e1, e2, _⟩ => ?_) _ _ ⟨rfl, rfl, all⟩
  · rw [e2]
    refine wpAny_bind (q v List.mem_cons_self _ _ _ ?_)
    simp only [Bool.false_eq_true, if_false]
    exact wpAny_pure ⟨rfl, rfl, fun u hu => q u (List.mem_cons_of_mem _ hu)⟩
  · obtain ⟨r1, r2⟩ := r
    cases show r1 = none from e1
    rw [e2]
    exact wpAny_pure h
theorem byv_flat {m : Nat} {s : Shared} {v : Value} (h : hashByValue m v = pure true) : Ans P w hashByValue true m s v := fun A E Q q => by rw [h]; exact wpAny_pure q
theorem cls_flat {m : Nat} {s : Shared} {v : Value} (h : ofAClassStatement m v = pure false) : Ans P w ofAClassStatement false m s v := fun A E Q q => by rw [h]; exact wpAny_pure q
mutual
theorem nk_byv : ∀ (k : NestedKey) (v : Value) (m : Nat) (s : Shared), NestedIs s.heap k v → intK k = true → k.depth ≤ m → Ans P w hashByValue true m s v ∧ Ans P w ofAClassStatement false m s v
  | .num i, _, m, s, x, _, _ => by
    cases x
    · exact ⟨byv_flat (by cases m <;> rfl), cls_flat (by cases m <;> rfl)⟩
    · exact ⟨byv_flat (by cases m <;> rfl), cls_flat (by cases m <;> rfl)⟩
  | .tup ks, _, m, s, x, f, hm => by
    cases x with
    | tup h1 h2 h3 h4 =>
      rw [intK] at f
      rw [NestedKey.depth] at hm
      cases m with
      | zero => omega
      | succ m =>
        have q := nks_byv ks _ m s h4 f (by omega)
        exact ⟨by_tup h1 h2 h3 fun v hv => (q v hv).1, cl_tup h1 h2 h3 fun v hv => (q v hv).2⟩
  | .none, _, _, _, _, f, _ => by rw [intK] at f; cases f
  | .text _, _, _, _, _, f, _ => by rw [intK] at f; cases f
theorem nks_byv : ∀ (ks : List NestedKey) (vs : List Value) (m : Nat) (s : Shared), NestedAll s.heap ks vs → intKs ks = true → NestedKey.depthAll ks ≤ m → ∀ v ∈ vs, Ans P w hashByValue true m s v ∧ Ans P w ofAClassStatement false m s v
  | [], _, _, _, x, _, _, v, hv => by cases x; cases hv
  | k :: ks, _, m, s, x, f, hm, v, hv => by
    cases x with
    | cons x1 x2 =>
      rw [intKs, Bool.and_eq_true] at f
      rw [NestedKey.depthAll] at hm
      rcases List.mem_cons.mp hv with e | hv
      · rw [e]; exact nk_byv k _ m s x1 f.1 (by omega)
      · exact nks_byv ks _ m s x2 f.2 (by omega) v hv
end
/-- at b stands the key k -/
def KeyAt (h : Heap) (k : NestedKey) (b : Addr) : Prop := (NestedIs h k (.ref b) ∧ k.depth ≤ 8) ∧ intK k = true
theorem KeyAt.grow {h h' : Heap} {k : NestedKey} {b : Addr} (x : KeyAt h k b) (g : ∀ a o vs n, h.get? a = some o → o.data = .seq vs n → h'.get? a = some o) : KeyAt h' k b := ⟨⟨NestedIs.at g k _ x.1.1, x.1.2⟩, x.2⟩
section
variable {A : Around} {E : Value → Shared → Prop} {s : Shared}
/-- comparing keys shows nothing -/
theorem nk_seen {k : NestedKey} {b : Addr} {Q : Bool → Shared → Prop} (x : KeyAt s.heap k b) {ys : List Value} (hy : ∀ y ∈ ys, ∃ k' c, y = Value.ref c ∧ KeyAt s.heap k' c) (h : Q false s) : wpAny (model P w) A (searchCouldBeSeen (.ref b) ys) Q E s := by
  have ask : ∀ {k : NestedKey} {b : Addr}, KeyAt s.heap k b → (∀ (A : Around) (E : Value → Shared → Prop) (Q : Bool → Shared → Prop), Q true s → wpAny (model P w) A (eqIsQuiet 8 (.ref b)) Q E s) ∧ Ans P w ofAClassStatement false 8 s (.ref b) := fun x => ⟨fun A E Q q => (nestedKind P w).quiet x.1 q, (nk_byv _ _ 8 s x.1.1 x.2 x.1.2).2⟩
  unfold searchCouldBeSeen
  refine wpAny_bind (wpAny_forIn_list _ (fun l r t => r.1 = none ∧ t = s ∧ ∀ y ∈ l, ∃ k' c, y = Value.ref c ∧ KeyAt s.heap k' c) _ (fun v l r t ⟨e1, e2, q⟩ => ?_) (fun r t ⟨e1, e2, _⟩ => ?_) _ _ ⟨rfl, rfl, hy⟩)
  · rw [e2]
    obtain ⟨k', c, rfl, hc⟩ := q v List.mem_cons_self
    have q' : ∀ y ∈ l, ∃ k' c, y = Value.ref c ∧ KeyAt s.heap k' c := fun u hu => q u (List.mem_cons_of_mem _ hu)
    dsimp only
    split
    · exact wpAny_pure ⟨rfl, rfl, q'⟩
    · refine wpAny_bind ((ask x).1 _ _ _ ?_)
      simp only [Bool.not_true, Bool.false_eq_true, if_false]
      refine wpAny_bind ((ask hc).1 _ _ _ ?_)
      simp only [Bool.not_true, Bool.false_eq_true, if_false]
      refine wpAny_bind ((ask x).2 _ _ _ ?_)
      simp only [Bool.false_eq_true, if_false]
      refine wpAny_bind ((ask hc).2 _ _ _ ?_)
      simp only [Bool.false_eq_true, if_false]
      exact wpAny_pure ⟨rfl, rfl, q'⟩
  · obtain ⟨r1, r2⟩ := r
    cases show r1 = none from e1
    rw [e2]
    exact wpAny_pure h
end
end
end Tg

/-! Tg: a set of keys; a search for a key that it has not. -/
namespace Tg
open PySem PySem.Spec PyProof.Rows L2
abbrev Ky := NestedKey × Addr
def entOf (w : World) (q : Ky) : Int × Value := (q.1.hash w, .ref q.2)
/-- the set at a, its keys in the table's order -/
structure KSet (w : World) (h : Heap) (a : Addr) (L : List Ky) (es : Array (Int × Value)) (ep : Nat) (t : SetTable) : Prop where
  here : ∃ o, h.get? a = some o ∧ o.ExactSet ∧ o.data = .set es ep t
  ents : es.toList = L.map (entOf w)
  tab : L2.TabOk t (L.map fun q => q.1.hash w)
  keys : ∀ q ∈ L, KeyAt h q.1 q.2
  plain : t.plain = true
  room : L.length * 5 < t.mask * 3
theorem ent_at {w : World} {L : List Ky} {es : Array (Int × Value)} (h : es.toList = L.map (entOf w)) (i : Nat) : es[i]? = (L[i]?).map (entOf w) := by
  rw [← Array.getElem?_toList, h, List.getElem?_map]
theorem ent_size {w : World} {L : List Ky} {es : Array (Int × Value)} (h : es.toList = L.map (entOf w)) : es.size = L.length := by
  have z := congrArg List.length h
  rwa [Array.length_toList, List.length_map] at z
theorem fits_of {t : SetTable} {n : Nat} (hd : t.dummies = #[]) (hs : t.place.size = n) (hl : n ≤ t.mask) : t.fits n = true := by
  unfold SetTable.fits SetTable.fill
  rw [hd, hs]
  simpa using hl
theorem nth_dummy {m : Nat} : ∀ (n : Nat) (p : SetTable.Probe), p.dummy = none → (nth m p n).dummy = none
  | 0, _, h => h
  | n + 1, p, h => nth_dummy n (adv m p) (by unfold adv; split <;> exact h)
section
variable {P : Program} {w : World} {A : Around} {E : Value → Shared → Prop} {s : Shared} {a : Addr} {L : List Ky} {es : Array (Int × Value)} {ep : Nat} {t : SetTable}
theorem KSet.fit {h : Heap} (R : KSet w h a L es ep t) : t.fits es.size = true := by
  have h1 := R.tab.sz
  have h2 := R.room
  rw [List.length_map] at h1
  rw [ent_size R.ents]
  exact fits_of R.tab.dm h1 (by omega)
/-- where the way to a hash has come to -/
abbrev prb (t : SetTable) (H : Int) (c : Nat) : SetTable.Probe := nth t.mask (runAt t.mask (SetTable.bits H % (t.mask + 1)) (SetTable.bits H)) c
theorem seek (R : KSet w s.heap a L es ep t) {x : Addr} {k : NestedKey} (hx : KeyAt s.heap k x) (new : ∀ q ∈ L, q.1 ≠ k) (hu : A.units + 8 < cLine) {K : Nat} (hf : K < 10 * SetTable.turns t.mask)
    (hK : way t.mask (k.hash w) K ∉ t.place.toList) (hb : ∀ c, c < K → way t.mask (k.hash w) c ∈ t.place.toList) {Q : SetFound → Shared → Prop} (out : Q (.free (way t.mask (k.hash w) K) false) s) :
    ∀ (f c : Nat) (st : Option SetTable.Probe), st.getD (t.probeStart (k.hash w)) = prb t (k.hash w) c → c ≤ K → K - c < f → wpAny (model P w) A (setSearchFrom a (.ref x) (k.hash w) true f st) Q E s := by
  obtain ⟨o, ho, hex, hd⟩ := R.here
  have fit := R.fit
  have odd : ¬ t.gaveWay = true := by
    unfold SetTable.gaveWay
    rw [mask_odd R.tab.mok]
    decide
  generalize hH : k.hash w = H at *
  intro f
  induction f with
  | zero => exact fun c st _ _ h => absurd h (Nat.not_lt_zero _)
  | succ f ih =>
    intro c st hst hc hlt
    rw [setSearchFrom_succ]
    refine wpAny_bind (wpAny_setState_of ho hd fit ?_)
    dsimp only
    refine wp_if_neg odd ?_
    try refine wpAny_bind (wpAny_pure ?_)
    have sh : ∀ q, nth t.mask (prb t H c) q = prb t H (c + q) := fun q => (nth_add t.mask c _ q).symm
    have jj : ∀ q, (nth t.mask (prb t H c) q).j = way t.mask H (c + q) := fun q => congrArg SetTable.Probe.j (sh q)
    have hend : c + (K - c) = K := by omega
    rcases go_spec t R.tab.ris R.tab.dm (fun i => (es[i]?.map (·.1)).getD 0) H (10 * SetTable.turns t.mask) (K - c) (prb t H c) (nth_dummy c _ rfl) (by omega) (fun q hq => by rw [jj]; exact hb _ (by omega)) (by rw [jj, hend]; exact hK) with ⟨q, i, hq, hi, _, _, go⟩ | ⟨_, go⟩
    · have met : t.probe (fun i => (es[i]?.map (·.1)).getD 0) H (st.getD (t.probeStart H)) = some (.candidate (nth t.mask (prb t H c) q).j i (nth t.mask (prb t H c) (q + 1))) := by rw [hst]; exact go
      rw [met]
      dsimp only
      have hil : i < L.length := by
        have h1 := (List.getElem?_eq_some_iff.mp hi).1
        have h2 := R.tab.sz
        rw [List.length_map] at h2
        rw [Array.length_toList] at h1
        omega
      obtain ⟨p, hp⟩ : ∃ p, L[i]? = some p := ⟨_, List.getElem?_eq_getElem hil⟩
      have hmem := List.mem_of_getElem? hp
      have he : es[i]? = some (p.1.hash w, .ref p.2) := by rw [ent_at R.ents, hp]; rfl
      have ne : decide (p.1 = k) = false := decide_eq_false (new p hmem)
      have live := slot_live R.tab.ris hi
      have rest : wpAny (model P w) A (searchRest a (.ref x) H true f es t (nth t.mask (prb t H c) q).j i (nth t.mask (prb t H c) (q + 1))) Q E s := by
        unfold searchRest
        rw [he]
        dsimp only
        refine wpAny_bind (wpAny_holding ((nestedKind P w).eqBool (x := p.1) (y := k) hu (R.keys p hmem).1 hx.1 ?_))
        rw [ne]
        refine wpAny_bind (wpAny_setState_of ho hd fit ?_)
        dsimp only
        refine wp_if_neg (by simp) ?_
        try refine wpAny_bind (wpAny_pure ?_)
        rw [sameMem]
        simp only [if_true, live, he]
        refine wpAny_bind (wpAny_isSame_ref_self (wpAny_bind (wpAny_pure ?_)))
        simp only [if_true, Bool.false_eq_true, if_false]
        exact ih (c + (q + 1)) _ (sh (q + 1)) (by omega) (by omega)
      by_cases led : t.led = true
      · refine wp_if_neg (by simp [led]) ?_
        try refine wpAny_bind (wpAny_pure ?_)
        exact rest
      · refine wp_if_pos (by simp [led]) ?_
        refine wpAny_bind (nk_seen hx (fun y hy => ?_) ?_)
        · obtain ⟨e, h1, rfl⟩ := List.mem_map.mp hy
          have h2 : e ∈ es.toList := by
            have := (List.mem_map.mp hy)
            simp only [Array.toList_filter, List.mem_filter] at h1
            exact h1.1
          rw [R.ents] at h2
          obtain ⟨p2, h3, rfl⟩ := List.mem_map.mp h2
          exact ⟨p2.1, p2.2, rfl, R.keys p2 h3⟩
        · refine wp_if_neg (by decide) ?_
          try refine wpAny_bind (wpAny_pure ?_)
          exact rest
    · have met : t.probe (fun i => (es[i]?.map (·.1)).getD 0) H (st.getD (t.probeStart H)) = some (.empty (nth t.mask (prb t H c) (K - c)).j none) := by rw [hst]; exact go
      rw [met, jj, hend]
      exact wpAny_pure out
/-- the search as adding asks for it -/
theorem seek0 (R : KSet w s.heap a L es ep t) {x : Addr} {k : NestedKey} (hx : KeyAt s.heap k x) (new : ∀ q ∈ L, q.1 ≠ k) (hu : A.units + 8 < cLine) {Q : SetFound → Shared → Prop}
    (out : ∀ K, way t.mask (k.hash w) K ∉ t.place.toList → (∀ c, c < K → way t.mask (k.hash w) c ∈ t.place.toList) → Q (.free (way t.mask (k.hash w) K) false) s) : wpAny (model P w) A (setSearch a (.ref x) (k.hash w) true) Q E s := by
  have rm := R.room
  obtain ⟨K, h1, h2, h3⟩ := R.tab.first (by rw [List.length_map]; omega) (k.hash w)
  have few : 10 * SetTable.turns t.mask ≤ 100000 := by
    unfold SetTable.turns
    rcases R.tab.mok with e | e | e <;> rw [e] <;> decide
  unfold setSearch
  exact seek R hx new hu h1 h2 h3 (out K h2 h3) 100000 0 none rfl (Nat.zero_le _) (by omega)
end
end Tg

/-! Tg: a set of keys grows by a new one. -/
namespace Tg
open PySem PySem.Spec PyProof.Rows L2
theorem range_get {α : Type} : ∀ L : List α, (List.range L.length).filterMap (fun i => L[i]?) = L
  | [] => rfl
  | x :: L => by
    rw [List.length_cons, List.range_succ_eq_map]
    simp only [List.filterMap_cons, List.getElem?_cons_zero, List.filterMap_map]
    exact congrArg (x :: ·) (range_get L)
theorem fm_all {α β : Type} {f : α → Option β} {g : α → β} : ∀ l : List α, (∀ x ∈ l, f x = some (g x)) → l.filterMap f = l.map g
  | [], _ => rfl
  | x :: l, h => by rw [List.filterMap_cons_some (h x List.mem_cons_self), fm_all l fun y hy => h y (List.mem_cons_of_mem _ hy), List.map_cons]
theorem pick_perm {α β : Type} (f : α → β) {L : List α} {es : Array β} (h : es.toList = L.map f) {order : List Nat} (hp : order.Perm (List.range L.length)) {g : α → Int} {g' : Nat → Int} (hg : ∀ i x, L[i]? = some x → g' i = g x) :
    ∃ L2 : List α, order.filterMap (fun i => es[i]?) = L2.map f ∧ L2.Perm L ∧ L2.map g = order.map g' := by
  refine ⟨order.filterMap fun i => L[i]?, ?_, ?_, ?_⟩
  · rw [List.map_filterMap]
    congr 1
    funext i
    rw [← Array.getElem?_toList, h, List.getElem?_map]
  · have z := hp.filterMap fun i => L[i]?
    rwa [range_get] at z
  · rw [List.map_filterMap]
    refine fm_all _ fun i hi => ?_
    have hlt := List.mem_range.mp (hp.mem_iff.mp hi)
    rw [List.getElem?_eq_getElem hlt]
    exact congrArg some (hg i _ (List.getElem?_eq_getElem hlt)).symm
/-- a key is none of the set's own memory -/
theorem KeyAt.beside {h h' : Heap} {k : NestedKey} {a b : Addr} {o : Obj} {es : Array (Int × Value)} {ep : Nat} {t : SetTable} (x : KeyAt h k b) (ho : h.get? a = some o) (hd : o.data = .set es ep t) (sb : Heap.SameBut a h h') : KeyAt h' k b :=
  x.grow fun c u vs n hc hv => (sb.2 c fun e => by
    rw [e, ho] at hc
    cases hc
    rw [hd] at hv
    cases hv).trans hc
section
variable {P : Program} {w : World} {A : Around} {E : Value → Shared → Prop} {s : Shared} {a : Addr} {L : List Ky} {es : Array (Int × Value)} {ep : Nat} {t : SetTable}
theorem relay_k {o : Obj} (ho : s.heap.get? a = some o) (hex : o.ExactSet) (hd : o.data = .set es ep t) (he : es.toList = L.map (entOf w)) (hs : t.place.size = L.length) (hm : t.dummies = #[]) (hl : L.length ≤ t.mask)
    (keys : ∀ q ∈ L, KeyAt s.heap q.1 q.2) (pl : t.plain = true) {wanted M : Nat} (hw : SetTable.sizeAbove wanted = M + 1) (hM : MaskOk M) (hn : L.length * 5 < M * 3) {Q : Unit → Shared → Prop}
    (q : ∀ h' L' es' ep' t', Heap.SameBut a s.heap h' → KSet w h' a L' es' ep' t' → L'.Perm L → Q () { s with heap := h' }) : wpAny (model P w) A (setRelay a wanted) Q E s := by
  have hz := ent_size he
  have hM1 : M ≤ 127 := by rcases hM with e | e | e <;> rw [e] <;> decide
  obtain ⟨t', order, e1, op, T, e2, e3, e4, e5⟩ := relaid_ok t (hs := es.map (·.1)) (wanted := wanted) (M := M) (by rw [hw]; rfl) hM (by rw [Array.size_map, hz]; omega)
  rw [Array.size_map, hz] at op
  obtain ⟨L2, g1, g2, g3⟩ := pick_perm (entOf w) he op (g := fun q => q.1.hash w) (g' := fun i => (es.map (·.1)).getD i 0) fun i x hi => by
    have z : (es.map (·.1))[i]? = some (x.1.hash w) := by rw [Array.getElem?_map, ent_at he, hi]; rfl
    simp [Array.getD_eq_getD_getElem?, z]
  rw [← g3] at T
  have g4 : (order.filterMap (es[·]?)).toList = L2.map (entOf w) := by rw [Array.toList_filterMap]; exact g1
  have g5 : (order.filterMap (es[·]?)).size = es.size := by rw [ent_size g4, g2.length_eq, hz]
  rw [setRelay_eq]
  refine wpAny_bind (wpAny_setState_of ho hd (by rw [hz]; exact fits_of hm hs hl) ?_)
  dsimp only
  refine wp_if_neg (by rw [sizeLine_eq, hw]; omega) ?_
  try refine wpAny_bind (wpAny_pure ?_)
  rw [e1]
  dsimp only
  refine wpAny_bind ?_
  refine wp_if_neg (by rw [g5]; simp) ?_
  try refine wpAny_bind (wpAny_pure ?_)
  refine wpAny_pure ?_
  dsimp only
  have sb : Heap.SameBut a s.heap (s.heap.update a (Obj.putSet (order.filterMap (es[·]?)) t')) := Heap.SameBut.update ..
  refine wpAny_storeSet_of ho hd (q _ L2 (order.filterMap (es[·]?)) (ep + 1) t' sb ?_ g2) (by rw [g5, hz, sizeLine_eq]; omega)
  refine ⟨⟨_, store_at ho hd, ⟨hex.1, hex.2.1, hex.2.2⟩, rfl⟩, g4, T, fun p hp => (keys p (g2.mem_iff.mp hp)).beside ho hd sb, by rw [e4]; exact pl, ?_⟩
  rw [g2.length_eq, e2]
  exact hn
theorem add_k (R : KSet w s.heap a L es ep t) {x : Addr} {k : NestedKey} (hx : KeyAt s.heap k x) (new : ∀ q ∈ L, q.1 ≠ k) (hu : A.units + 8 < cLine) (few : L.length + 1 < 64) {Q : Bool → Shared → Prop}
    (q : ∀ b h' L' es' ep' t', Heap.SameBut a s.heap h' → KSet w h' a L' es' ep' t' → L'.Perm ((k, x) :: L) → Q b { s with heap := h' }) : wpAny (model P w) A (setAddHashed a (.ref x) (k.hash w)) Q E s := by
  obtain ⟨o, ho, hex, hd⟩ := R.here
  have fit := R.fit
  have hz := ent_size R.ents
  have rm := R.room
  unfold setAddHashed
  refine wpAny_holding ?_
  rw [show (100000 : Nat) = 99999 + 1 from rfl, setAddHashedIn_succ]
  refine wpAny_bind (wpAny_setState_of ho hd fit ?_)
  dsimp only
  refine wp_if_neg (by simp [byScan, Value.scannable]) ?_
  try refine wpAny_bind (wpAny_pure ?_)
  refine wpAny_bind (seek0 R hx new hu fun K hK hb => ?_)
  dsimp only
  refine wpAny_bind (wpAny_setState_of ho hd fit ?_)
  dsimp only
  obtain ⟨q1, q2, q3, q4, q5, q6, q7, q8, q9⟩ := R.tab.put hK hb
  generalize hj : way t.mask (k.hash w) K = j at *
  generalize hpt : t.put j = pt at *
  obtain ⟨t1, c⟩ := pt
  dsimp only at *
  subst q1
  have hp1 : t1.plain = true := by rw [q6]; exact R.plain
  refine wp_if_pos hp1 (wpAny_bind ((nk_byv k _ 8 s hx.1.1 hx.2 hx.1.2).1 _ _ _ ?_))
  simp only [if_true]
  generalize hc : SetTable.below t.place j = c at *
  have pm := put_perm L c (k, x)
  have g1 : (SetTable.insertAt es c (k.hash w, Value.ref x)).toList = (L.take c ++ (k, x) :: L.drop c).map (entOf w) := by
    rw [SetTable.toList_insertAt, R.ents, List.map_append, List.map_cons, List.map_take, List.map_drop]
    rfl
  have g2 : (L.take c ++ (k, x) :: L.drop c).map (fun q => q.1.hash w) = (L.map fun q => q.1.hash w).take c ++ k.hash w :: (L.map fun q => q.1.hash w).drop c := by
    rw [List.map_append, List.map_cons, List.map_take, List.map_drop]
  rw [← g2] at q3
  have g3 := ent_size g1
  have g4 := pm.length_eq
  rw [List.length_cons] at g4
  generalize L.take c ++ (k, x) :: L.drop c = L1 at *
  generalize SetTable.insertAt es c (k.hash w, Value.ref x) = es1 at *
  refine wpAny_bind (wpAny_storeSet_of ho hd ?_ (by rw [g3, g4, sizeLine_eq]; omega))
  have sb : Heap.SameBut a s.heap (s.heap.update a (Obj.putSet es1 t1)) := Heap.SameBut.update ..
  have ho1 := store_at (es' := es1) (t' := t1) ho hd
  generalize s.heap.update a (Obj.putSet es1 t1) = h1 at *
  have keys1 : ∀ p ∈ L1, KeyAt h1 p.1 p.2 := fun p hp => by
    rcases List.mem_cons.mp (pm.mem_iff.mp hp) with e | hp
    · rw [e]; exact hx.beside ho hd sb
    · exact (R.keys p hp).beside ho hd sb
  rw [List.length_map] at q9
  by_cases full : t1.tooFull = true
  · refine wp_if_pos (by simp [full]) (wpAny_bind ?_)
    have f2 := full
    unfold SetTable.tooFull at f2
    rw [decide_eq_true_eq, q9, q4] at f2
    have sz1 := q3.sz
    rw [List.length_map] at sz1
    have two : (t.mask = 7 ∧ L.length = 4) ∨ (t.mask = 31 ∧ L.length = 18) := by
      rcases R.tab.mok with e | e | e <;> rw [e] at f2 rm <;> omega
    have go : ∀ M, SetTable.sizeAbove (SetTable.grown (es.size + 1)) = M + 1 → MaskOk M → (L.length + 1) * 5 < M * 3 →
        wpAny (model P w) A (setRelay a (SetTable.grown (es.size + 1))) (fun _ s' => wpAny (model P w) A (pure true) Q E s') E { s with heap := h1 } := fun M m1 m2 m3 =>
      relay_k (s := { s with heap := h1 }) ho1 ⟨hex.1, hex.2.1, hex.2.2⟩ rfl g1 sz1 q3.dm (by rw [g4, q4]; rcases two with ⟨e, e2⟩ | ⟨e, e2⟩ <;> omega) keys1 hp1 m1 m2 (by rw [g4]; exact m3) fun h2 L2 es2 ep2 t2 sb2 R2 pm2 => wpAny_pure (q true h2 L2 es2 ep2 t2 (sb.trans sb2) R2 (pm2.trans pm))
    rcases two with ⟨_, e⟩ | ⟨_, e⟩
    · refine go 31 (by rw [hz, e]; exact size_20) (.inr (.inl rfl)) (by omega)
    · refine go 127 (by rw [hz, e]; exact size_76) (.inr (.inr rfl)) (by omega)
  · refine wp_if_neg (by simp [full]) (wpAny_pure (q true h1 L1 es1 (ep + 1) t1 sb ⟨⟨_, ho1, ⟨hex.1, hex.2.1, hex.2.2⟩, rfl⟩, g1, q3, keys1, hp1, ?_⟩ pm))
    have f2 := full
    unfold SetTable.tooFull at f2
    rw [decide_eq_true_eq, q9] at f2
    omega
end
end Tg

/-! Tg: len(set(xs)) of a list of nested tuples of ints that all differ. -/
namespace Tg
open PySem PySem.Spec PyProof.Rows L2
theorem KSet.go {w : World} {h h' : Heap} {a : Addr} {L : List Ky} {es : Array (Int × Value)} {ep : Nat} {t : SetTable} (R : KSet w h a L es ep t) (here : ∀ o, h.get? a = some o → h'.get? a = some o) (keys : ∀ q ∈ L, KeyAt h' q.1 q.2) : KSet w h' a L es ep t := by
  obtain ⟨o, ho, r⟩ := R.here
  exact ⟨⟨o, here o ho, r⟩, R.ents, R.tab, keys, R.plain, R.room⟩
theorem kset_new {w : World} {h : Heap} {a : Addr} {b : Bool} (ho : h.get? a = some { cls := .type "set", dict := none, data := .set #[] 0 (.fresh 0 0 b) }) : KSet w h a [] #[] 0 (.fresh 0 0 b) where
  here := ⟨_, ho, ⟨rfl, rfl, rfl⟩, rfl⟩
  ents := rfl
  tab := ⟨List.Pairwise.nil, rfl, rfl, .inl rfl, fun x hx => (by cases hx), fun i h j hi => (by simp at hi)⟩
  keys := fun q hq => (by cases hq)
  plain := rfl
  room := (by decide : 0 * 5 < 7 * 3)
section
variable {prog : Program} {w : World} {A : Around} {R : Result → Shared → Prop} {I : Addr} {fp wr : List Addr} {G : Array GenState → Array GenState → Prop} {n : Nat} {P : Nat → Value → Prop} {St : Nat → Shared → Prop}
theorem fill_keys (Wk : WalksS prog w A.in1 I fp wr G n P St) (S : Addr) (hSf : S ∉ fp) (ks : List Ky) (hsz : ks.length = n) (few : n < 64) (nd : (ks.map (·.1)).Nodup) (hval : ∀ i v, P i v → ∃ q, ks[i]? = some q ∧ v = .ref q.2)
    (h0 : Heap) (hk : ∀ q ∈ ks, KeyAt h0 q.1 q.2) (hS0 : h0.get? S = none) (hw0 : ∀ b ∈ wr, h0.get? b = none) (hu : A.in1.units + 8 < cLine) :
    ∀ (k i : Nat) (s : Shared), n - i = k → i ≤ n → St i s → (∀ b o, h0.get? b = some o → s.heap.get? b = some o) → (∃ L es ep t, KSet w s.heap S L es ep t ∧ L.Perm (ks.take i)) →
      (∀ s' L es ep t, Moved (S :: wr) G s s' → KSet w s'.heap S L es ep t → L.Perm ks → (∀ b o, h0.get? b = some o → s'.heap.get? b = some o) → R (.ok (.ret .none)) s') →
      codeAny (model prog w) A (.builtin "set.update.loop" ⟨[.ref S, .ref I], []⟩) R s := by
  have hSw : S ∉ wr := fun h => hSf (Wk.sub _ h)
  have wider : ∀ b ∈ wr, b ∈ S :: wr := fun b hb => List.mem_cons_of_mem _ hb
  have still : ∀ {s s' : Shared}, Moved wr G s s' → (∀ b o, h0.get? b = some o → s.heap.get? b = some o) → ∀ b o, h0.get? b = some o → s'.heap.get? b = some o := fun mv kp b o e =>
    mv.heap b o (fun hb => by rw [hw0 b hb] at e; cases e) (kp b o e)
  have keyed : ∀ {h : Heap}, (∀ b o, h0.get? b = some o → h.get? b = some o) → ∀ q ∈ ks, KeyAt h q.1 q.2 := fun kp q hq => (hk q hq).grow fun a o _ _ e _ => kp a o e
  intro k
  induction k with
  | zero =>
    intro i s hk' hi hst kp ⟨L, es, ep, t, hS, pm⟩ fin
    obtain rfl : i = n := by omega
    rw [← hsz, List.take_length] at pm
    refine codeAny_builtin F.entry_set_update_loop ?_
    rw [Around.under_plainId F.plain_set_update_loop _]
    show wpAny _ A.in1 (pyNext (.ref I) >>= _) _ _ s
    refine wpAny_bind (Wk.done s _ _ hst fun s' mv => ?_)
    show wpAny _ A.in1 (ret Value.none) _ _ s'
    have kp' := still mv kp
    exact wpAny_pure (fin s' L es ep t (mv.mono wider) (hS.go (fun o e => mv.heap S o hSw e) fun q hq => keyed kp' q (pm.mem_iff.mp hq)) pm kp')
  | succ k ih =>
    intro i s hk' hi hst kp ⟨L, es, ep, t, hS, pm⟩ fin
    have hlt : i < n := by omega
    refine codeAny_builtin F.entry_set_update_loop ?_
    rw [Around.under_plainId F.plain_set_update_loop _]
    show wpAny _ A.in1 (pyNext (.ref I) >>= _) _ _ s
    refine wpAny_bind (Wk.item i s _ _ hlt hst fun v s' hP hst' mv => ?_)
    obtain ⟨p, hp, rfl⟩ := hval i v hP
    have kp' := still mv kp
    have inks : ∀ q ∈ L, q ∈ ks := fun q hq => List.mem_of_mem_take (pm.mem_iff.mp hq)
    have hS' := hS.go (h' := s'.heap) (fun o e => mv.heap S o hSw e) fun q hq => keyed kp' q (inks q hq)
    have hx := keyed kp' p (List.mem_of_getElem? hp)
    have tk : ks.take (i + 1) = ks.take i ++ [p] := by rw [List.take_add_one, hp]; rfl
    have new : ∀ q ∈ L, q.1 ≠ p.1 := fun q hq e => by
      have nd2 : ((ks.take (i + 1)).map (·.1)).Nodup := nd.sublist ((List.take_sublist _ _).map _)
      rw [tk, List.map_append, List.nodup_append] at nd2
      exact nd2.2.2 _ (List.mem_map.mpr ⟨q, pm.mem_iff.mp hq, rfl⟩) _ (List.mem_singleton.mpr rfl) e
    have few' : L.length + 1 < 64 := by
      have z := pm.length_eq
      rw [List.length_take] at z
      omega
    show wpAny _ A.in1 (holding [Value.ref p.2] (setAdd S (.ref p.2)) >>= _) _ _ s'
    refine wpAny_bind (wpAny_holding ?_)
    unfold setAdd
    refine wpAny_holding ?_
    refine wpAny_bind ((nestedKind prog w).pyHash hu hx.1 ?_)
    refine add_k (s := { s' with toks := s'.toks + (nestedKind prog w).draws p.1 }) hS' hx new hu few' fun b h' L' es' ep' t' sb hS2 pm2 => ?_
    have kp2 : ∀ b o, h0.get? b = some o → h'.get? b = some o := fun b o e => (sb.2 b (fun z => by rw [z, hS0] at e; cases e)).trans (kp' b o e)
    have pm3 : L'.Perm (ks.take (i + 1)) := by
      rw [tk]
      exact pm2.trans ((List.Perm.cons _ pm).trans (List.perm_append_singleton _ _).symm)
    refine wpAny_pure ⟨plainId_quiet F.plain_set_update_loop _, ih (i + 1) _ (by omega) hlt (Wk.frame _ s' _ _ hst' (Nat.le_add_right _ _) fun b hb o e => ?_) kp2 ⟨L', es', ep', t', hS2, pm3⟩ fun s'' L3 es3 ep3 t3 mv3 hS3 pm4 kp3 => ?_⟩
    · rw [sb.2 b (fun z : b = S => hSf (by rw [← z]; exact hb))]
      exact e
    · refine fin s'' L3 es3 ep3 t3 (Moved.trans Wk.gtrans ((mv.mono wider).then_heap (Nat.le_add_right _ _) fun b o hb e => ?_) mv3) hS3 pm4 kp3
      rw [sb.2 b (fun z : b = S => hb (by rw [z]; exact List.mem_cons_self))]
      exact e
end
section
variable {prog : Program} {w : World} {A : Around} {E : Value → Shared → Prop} {s : Shared}
/-- set(l), l a list of keys that all differ -/
theorem set_of_keys {l : Addr} {items : Array Value} {ks : List Ky} {Q : Value → Shared → Prop} (hh : A.handled = none) (hl : s.heap.IsList l items) (hi : items.toList = ks.map fun q => Value.ref q.2) (hk : ∀ q ∈ ks, KeyAt s.heap q.1 q.2) (few : ks.length < 64) (nd : (ks.map (·.1)).Nodup) (hu : A.units + 12 < cLine)
    (h : ∀ (h' : Heap) (tk : Nat) L es ep t, KSet w h' s.heap.objs.size L es ep t → L.length = ks.length → (∀ b o, b < s.heap.objs.size → s.heap.get? b = some o → h'.get? b = some o) → Q (.ref s.heap.objs.size) { s with heap := h', toks := tk }) :
    wpAny (model prog w) A (call (.type "set") [.ref l]) Q E s := by
  have hsz : ks.length = items.size := by
    have z := congrArg List.length hi
    rw [Array.length_toList, List.length_map] at z
    exact z.symm
  obtain ⟨c, tl, hmro⟩ := PySem.F.called_set.mro
  have hmade := PySem.F.called_set.made
  have hsub := PySem.F.called_set.sub
  refine wpAny_call (codeAny_of_tree ?_)
  show wpAny _ _ (callAny (.type "set") _) _ _ _
  refine wpAny_pure ⟨Code.quiet_builtin _ (by decide +kernel), codeAny_builtin PySem.F.entry_type_call ?_⟩
  rw [Around.under_plain (weight_type_call_type "set" [.ref l] []) rfl]
  have h1 := PySem.F.called_set.notType
  have h2 := PySem.F.called_set.canCreate
  have hct := PySem.F.typeCall_set_1 (.ref l)
  repeat (any_goals (first | assumption | wp_step))
  refine codeAny_mono (code_set_new_1 (.ref l) (E := E) (Q₁ := fun obj s₁ => ∃ led : Bool, obj = .ref s.heap.objs.size ∧ s₁ = { s with heap := s.heap.push { cls := .type "set", dict := none, data := .set #[] 0 (.fresh 0 0 led) } }) fun led => ⟨led, rfl, rfl⟩) fun r s₁ hr => ?_
  cases r with
  | error e => exact hr
  | ok fl =>
    cases fl with
    | ret obj =>
      obtain ⟨led, rfl, rfl⟩ := hr
      have hS : (s.heap.push { cls := .type "set", dict := none, data := .set #[] 0 (.fresh 0 0 led) }).get? s.heap.objs.size = some { cls := .type "set", dict := none, data := .set #[] 0 (.fresh 0 0 led) } := Heap.get?_push_size _ rfl
      have hT : Shared.TypeIs { s with heap := s.heap.push { cls := .type "set", dict := none, data := .set #[] 0 (.fresh 0 0 led) } } (.ref s.heap.objs.size) "set" := ⟨_, hS, rfl⟩
      have hli := PySem.F.called_set.init.lookup
      have hbi := PySem.F.called_set.init.bind (.ref s.heap.objs.size)
      repeat (any_goals (first | assumption | wp_step))
      refine codeAny_mono (codeAny_call_builtin (R := wants (fun r s₂ => r = .none ∧ ∃ h' tk L es ep t, s₂ = { s with heap := h', toks := tk } ∧
          KSet w h' s.heap.objs.size L es ep t ∧ L.length = ks.length ∧ (∀ b o, b < s.heap.objs.size → s.heap.get? b = some o → h'.get? b = some o)) E) PySem.F.called_set.init.plain PySem.F.entry_set_init (check_set_init_1 hT ?_)) fun r₂ s₂ hr₂ => ?_
      · obtain ⟨⟨ocls, odict, odata, oslots⟩, hol, hcl, nl, hdl⟩ := hl
        simp only at hcl hdl
        subst hcl; subst hdl
        have hol' : (s.heap.push { cls := .type "set", dict := none, data := .set #[] 0 (.fresh 0 0 led) }).get? l = some { cls := .type "list", dict := odict, data := .seq items nl, slots := oslots } := Heap.get?_push_of_some _ hol
        have hsls := PySem.F.sub_list_set
        have hslf := PySem.F.sub_list_frozenset
        have hne : (Value.type "list" == Value.type "dict") = false := by decide
        have hl1 : (s.heap.push { cls := .type "set", dict := none, data := .set #[] 0 (.fresh 0 0 led) }).IsList l items := ⟨_, hol', rfl, nl, rfl⟩
        unfold Builtin.«set.__init__» noKeywords Builtin.Frozenset.updateFrom
        generalize hPI : pyIter = PI
        wp_walk
        subst hPI
        refine wpAny_pyIter_list hl1 ?_
        refine wpAny_bind (wpAny_runValue ?_)
        have hlS : l < s.heap.objs.size := Heap.lt_size hol
        have hh3 : A.in1.in1.in1.handled = none := by simp [hh]
        have hneI : l ≠ (s.heap.push { cls := .type "set", dict := none, data := .set #[] 0 (.fresh 0 0 led) }).objs.size := by
          rw [Heap.size_push]; exact Nat.ne_of_lt (Nat.lt_succ_of_lt hlS)
        have hSf : s.heap.objs.size ∉ [(s.heap.push { cls := .type "set", dict := none, data := .set #[] 0 (.fresh 0 0 led) }).objs.size, l] := by
          rw [Heap.size_push]; simp only [List.mem_cons, List.mem_singleton, List.not_mem_nil, or_false, not_or]
          exact ⟨Nat.ne_of_lt (Nat.lt_succ_self _), Nat.ne_of_gt hlS⟩
        have hval : ∀ (i : Nat) (v : Value), items[i]? = some v → ∃ q, ks[i]? = some q ∧ v = .ref q.2 := fun i v hv => by
          rw [← Array.getElem?_toList, hi, List.getElem?_map] at hv
          cases hq : ks[i]? with
          | none => rw [hq] at hv; cases hv
          | some q => rw [hq] at hv; exact ⟨q, rfl, (Option.some.inj hv).symm⟩
        have bare : ∀ b, s.heap.objs.size ≤ b → s.heap.get? b = none := fun b hb => by
          cases q : s.heap.get? b with
          | none => rfl
          | some o => exact absurd (Heap.lt_size q) (Nat.not_lt.mpr hb)
        refine fill_keys ((Walks.list hh3 _ l hneI items).toS) s.heap.objs.size hSf ks hsz (by rw [← hsz]; exact few) nd hval s.heap hk (bare _ (Nat.le_refl _)) (fun b hb => bare b (by rw [List.mem_singleton.mp hb, Heap.size_push]; exact Nat.le_succ _)) (by simp only [Around.in1_units]; omega) (items.size - 0) 0 _ (by omega) (Nat.zero_le _)
          ⟨⟨_, Heap.get?_push_size _ rfl, rfl, rfl⟩, (hl1.push _)⟩ (fun b o e => Heap.get?_push_of_some _ (Heap.get?_push_of_some _ e)) ⟨[], #[], 0, _, kset_new (Heap.get?_push_of_some _ hS), List.Perm.refl _⟩ fun s' L es ep t mv hS' pm kp => ?_
        obtain ⟨h', g', d', tk', os'⟩ := s'
        have eg : g' = s.gens := mv.gens
        have ed : d' = s.drawn := mv.drawn
        have eo : os' = s.os := mv.os
        subst eg; subst ed; subst eo
        show wpAny _ _ _ _ _ _
        refine wpAny_pure ?_
        show wpAny _ _ (ret Value.none) _ _ _
        exact wpAny_pure ⟨rfl, h', tk', L, es, ep, t, rfl, hS', pm.length_eq, fun b o _ e => kp b o e⟩
      · cases r₂ with
        | error e => exact hr₂
        | ok fl₂ =>
          cases fl₂ with
          | ret r =>
            obtain ⟨rfl, h', tk, L, es, ep, t, rfl, hS', hn, hk'⟩ := hr₂
            repeat (any_goals (first | assumption | wp_step))
            exact h _ _ _ _ _ _ hS' hn hk'
          | _ => exact hr₂.elim
    | _ => exact hr.elim
end
end Tg

/-! Tg: len(set(xs)), the rule. -/
namespace Tg
open PySem PySem.Spec PyProof.Rows L2
def nKeys : List D → Option (List NestedKey)
  | [] => some []
  | d :: r => match nKey d, nKeys r with
    | some k, some ks => some (k :: ks)
    | _, _ => none
section
variable {X : Cx} {pins : List (Addr × Obj)} {σ : L2.St} {H : Hp} {s : Shared} {N : Addr → Prop} {T : Tkn}
theorem kys_of (I : Inv X pins σ H s) : ∀ {ds : List D} {ks : List NestedKey} {xs : List V}, nKeys ds = some ks → RepL X.K N H ds xs → ∃ qs : List Ky, qs.map (·.1) = ks ∧ xs = qs.map (fun q => V.ref q.2) ∧ ∀ q ∈ qs, KeyAt s.heap q.1 q.2
  | [], ks, xs, h, r => by
    simp only [nKeys, Option.some.injEq] at h
    exact ⟨[], h, r, fun q hq => (by cases hq)⟩
  | d :: ds, ks, xs, h, ⟨y, ys, e, r1, r2⟩ => by
    simp only [nKeys] at h
    split at h
    · rename_i k ks' h1 h2
      cases h
      obtain ⟨qs, g1, g2, g3⟩ := kys_of I h2 r2
      obtain ⟨b, eb, n1, n2, _, n4⟩ := nk_rep h1 r1
      refine ⟨(k, b) :: qs, by rw [List.map_cons, g1], by rw [e, eb, g2, List.map_cons], fun q hq => ?_⟩
      rcases List.mem_cons.mp hq with z | hq
      · rw [z]
        exact ⟨⟨nk_is I d k _ _ n1 n4 rfl, n2⟩, nk_int d k n1⟩
      · exact g3 q hq
    · cases h
end
theorem ref_vals : ∀ {qs : List Ky} {us : List Value}, Vals (qs.map fun q => V.ref q.2) us → us = qs.map fun q => Value.ref q.2
  | [], _, h => by cases h; rfl
  | q :: qs, _, h => by
    cases h with
    | cons a b =>
      cases a
      rw [ref_vals b]
      rfl
def tLenSetN (K : PySem.W.Frag) (ta : TE) : TE := fun σ H Q => ta σ H fun x H1 => ∃ (T : Tkn) (N : Addr → Prop) (l : Addr) (xs : List V) (ds : List D) (ks : List NestedKey), x = .ref l ∧ SqL K H1 l xs ∧ RepL K N H1 ds xs ∧ nKeys ds = some ks ∧ ks.Nodup ∧ ks.length < 64 ∧ Q (.int ks.length) H1
theorem pe_lenSetN {X : Cx} {a : Expr} {ta : TE} {p p2 q pos : Pos} (hu : X.A.units + 65 < cLine) (hc : X.calm = true) (hg : Gl X "len") (hm : X.mg "len" = none) (hg2 : Gl X "set") (hm2 : X.mg "set" = none) (ha : PE X a ta)
    (na : starEach [a] X.env = (false, eval a X.env) :: starEach [] X.env := by rfl) : PE X (.Call (.Name "len" p) [.Call (.Name "set" p2) [a] [] q] [] pos) (tLenSetN X.K ta) := by
  refine ⟨fun pins s σ H Q I h => ?_⟩
  refine Call_ (ld_blt I hg hm boot_len ?_)
  refine PyProof.Rows.callWith_builtin1 (PyProof.Rows.args_cons ?_ rfl) rfl rfl
  refine Call_ (ld_blt I hg2 hm2 boot_set ?_)
  refine PyProof.Rows.callWith_type1 (PyProof.Rows.args_cons (thn (ha.run pins s σ H _ I h) fun v s1 ⟨x, H1, I1, r1, q1⟩ => PyProof.Rows.args_nil ?_) na) na rfl
  obtain ⟨T, N, l, xs, ds, ks, rfl, hq, rl, nk, nd, few, q1⟩ := q1
  cases r1
  obtain ⟨its, r, pl, hz⟩ := I1.list hq
  obtain ⟨qs, e1, e2, e3⟩ := kys_of I1 nk rl
  rw [e2] at r
  have el : qs.length = ks.length := by rw [← e1, List.length_map]
  refine set_of_keys (I1.ok.hd hc) pl.isList (ks := qs) (by simpa using ref_vals r) e3 (by rw [el]; exact few) (by rw [e1]; exact nd) (by omega) fun h' tk L es ep t S hL hk => ?_
  refine PyProof.Rows.args_nil ?_
  obtain ⟨o, ho, hex, hd⟩ := S.here
  have I2 : Inv X pins σ H1 { s1 with heap := h', toks := tk } := I1.kept fun b o e => hk b o (Heap.lt_size e) e
  have hn := ent_size S.ents
  rw [hL, el] at hn
  exact call_len_set ho hex hd S.fit (by rw [hn]; omega) ⟨.int ks.length, H1, I2.tok _, ⟨_, by rw [hn]⟩, q1⟩
def kLenSetN (s : S) : R S := match s.d with
  | .lst ds => (match nKeys ds with
    | some ks => if ks.Nodup ∧ ks.length < 64 then .ok (.val (.int ks.length)) else .bad
    | none => .bad)
  | _ => .bad
/-- len(set(x)), x's things all different -/
def eLenSetN (m : Ex) : Ex := fun e => (m e).bind kLenSetN
section
variable {X : Cx} {W : Wi} {a : Expr} {m : Ex} {l : List Nat} {p p2 q pos : Pos}
theorem x_lenSetN (hu : X.A.units + 65 < cLine) (hc : X.calm = true) (hm : X.mg "len" = none) (hm2 : X.mg "set" = none) (ha : SE X W a m l) (hg : Gl X "len" := by rfl) (hg2 : Gl X "set" := by rfl) (na : starEach [a] X.env = (false, eval a X.env) :: starEach [] X.env := by rfl) :
    SE X W (.Call (.Name "len" p) [.Call (.Name "set" p2) [a] [] q] [] pos) (eLenSetN m) [] := by
  refine PE.imp (pe_lenSetN hu hc hg hm hg2 hm2 ha na) fun σ H Q ⟨T, B, Z, rt, e, r, q⟩ => ?_
  unfold eLenSetN at q
  refine tE_go r (fun d hd => by rw [hd] at q; exact q) (fun hd => by rw [hd] at q; exact q) fun s y H1 hs sm r1 rs => ?_
  rw [hs, R.bind_ok] at q
  unfold kLenSetN at q
  have rd := rs.d (N := NZ W.g Z e rt l H) fun a z => .inr (.inl z)
  cases hd : s.d with
  | lst ds =>
    rw [hd] at rd
    simp only [hd] at q
    cases hk : nKeys ds with
    | none => simp only [hk] at q
    | some ks =>
      simp only [hk] at q
      by_cases hh : ks.Nodup ∧ ks.length < 64
      case neg =>
        rw [if_neg hh] at q
        exact q.elim
      rw [if_pos hh] at q
      obtain ⟨a, xs, e1, h1, h2⟩ := rd
      refine ⟨T, _, a, xs, ds, ks, e1, .inl (.inl h1.2), h2, hk, hh.1, hh.2, q (.int ks.length) H1 sm rfl⟩

  | _ => simp only [hd] at q
end
end Tg

/-! Tg: > of tuples of ints, min of a list of tuples of ints. -/
namespace Tg
open PySem PySem.Spec PyProof.Rows L2
abbrev TI := PySem.W.Tup Int
theorem lt_lex : ∀ a b : List Int, PySem.W.listLt a b = HT.lexLt a b
  | [], [] => rfl
  | [], _ :: _ => rfl
  | _ :: _, [] => rfl
  | x :: a, y :: b => by rw [PySem.W.listLt, HT.lexLt_cons, lt_lex a b]; rfl
section
variable {X : Cx} {pins : List (Addr × Obj)} {σ : L2.St} {H : Hp} {s : Shared}
theorem tup_holds (I : Inv X pins σ H s) {a : Addr} {ns : List Int} (h : SqT X.K H a (ns.map V.int)) : PySem.W.Holds s.heap (.ref a) (⟨ns⟩ : TI) := by
  obtain ⟨its, rv, hl, _⟩ := I.tuple h
  exact PySem.W.holds_tup hl (by simpa using PySem.W.HoldAll.of_ints rv.ints)
end
def rGtT (K : PySem.W.Frag) : R2 := fun x y H Q => ∃ a b ns ms, x = .ref a ∧ y = .ref b ∧ SqT K H a (ns.map V.int) ∧ SqT K H b (ms.map V.int) ∧ Q (.bl (HT.lexLt ms ns)) H
theorem op_gtT {X : Cx} (hu : X.A.units + 2 < cLine) : OpR X (compareOp .Gt) (rGtT X.K) := by
  intro pins s σ H x y v u Q I rx ry ⟨a, b, ns, ms, ex, ey, h1, h2, q⟩
  subst ex ey
  obtain rfl : v = .ref a := rx
  obtain rfl : u = .ref b := ry
  refine PySem.W.gt_datum (α := TI) (tup_holds I h1) (tup_holds I h2) (show X.A.units + (0 + 1) < cLine by omega) ⟨.bl (HT.lexLt ms ns), H, I, ?_, q⟩
  show Value.bool _ = Value.bool _
  rw [← lt_lex]
  rfl
/-- a > b, tuples of ints -/
def oGtT : D → D → R S
  | .tup a, .tup b => match D.ints a, D.ints b with
    | some ns, some ms => .ok (.val (.bl (HT.lexLt ms ns)))
    | _, _ => .bad
  | _, _ => .bad
theorem o_gtT {K : PySem.W.Frag} : Op2 K (rGtT K) oGtT := by
  intro T N H d c x y Q rd rc h
  cases d <;> cases c <;> first | exact False.elim h | skip
  rename_i ds es
  obtain ⟨a, xs, rfl, s1, r1⟩ := rd
  obtain ⟨b, ys, rfl, s2, r2⟩ := rc
  unfold oGtT at h
  cases e1 : D.ints ds with
  | none => simp only [e1] at h; exact False.elim h
  | some ns =>
    cases e2 : D.ints es with
    | none => simp only [e1, e2] at h; exact False.elim h
    | some ms =>
      simp only [e1, e2] at h
      have q1 := ints_some e1
      have q2 := ints_some e2
      subst q1 q2
      rw [r1.ints] at s1
      rw [r2.ints] at s2
      exact ⟨a, b, ns, ms, rfl, rfl, sqt s1, sqt s2, ok_bl h⟩
theorem nx_gtT : NoEx2 oGtT := by
  intro d c e h
  unfold oGtT at h
  split at h <;> (try split at h) <;> cases h
theorem fl_gtT : Fl2 oGtT := by
  intro d c s h
  unfold oGtT at h
  split at h <;> (try split at h) <;> cases h
  exact ⟨_, rfl, rfl⟩
/-- the least of some tuples of ints -/
def minL (n : List Int) (ns : List (List Int)) : List Int := ns.foldl (fun a y => if HT.lexLt y a = true then y else a) n
theorem minOf_ti : ∀ (n : List Int) (ns : List (List Int)), PySem.W.minOf (⟨n⟩ : TI) (ns.map fun l => ⟨l⟩) = ⟨minL n ns⟩
  | _, [] => rfl
  | n, y :: ns => by
    unfold minL PySem.W.minOf
    rw [List.map_cons, List.foldl_cons, List.foldl_cons]
    have e : PySem.W.DatumOrd.lt (⟨y⟩ : TI) ⟨n⟩ = HT.lexLt y n := lt_lex y n
    rw [e]
    have ih := fun m => minOf_ti m ns
    unfold minL PySem.W.minOf at ih
    by_cases c : HT.lexLt y n = true
    · rw [if_pos c, if_pos c]; exact ih y
    · rw [if_neg c, if_neg c]; exact ih n
/-- at xs stand the tuples ls -/
def TupsAt (K : PySem.W.Frag) (H : Hp) : List V → List (List Int) → Prop
  | [], [] => True
  | x :: xs, l :: ls => (∃ t, x = .ref t ∧ SqT K H t (l.map V.int)) ∧ TupsAt K H xs ls
  | _, _ => False
theorem tups_hold {X : Cx} {pins : List (Addr × Obj)} {σ : L2.St} {H : Hp} {s : Shared} (I : Inv X pins σ H s) : ∀ {xs : List V} {ls : List (List Int)} {us : List Value}, TupsAt X.K H xs ls → Vals xs us → PySem.W.HoldAll s.heap us (ls.map fun l => (⟨l⟩ : TI))
  | [], [], _, _, r => by cases r; exact .nil
  | x :: xs, l :: ls, _, ⟨⟨t, e, h⟩, h2⟩, r => by
    cases r with
    | cons a b =>
      subst e
      cases a
      exact .cons (tup_holds I h) (tups_hold I h2 b)
  | [], _ :: _, _, h, _ => h.elim
  | _ :: _, [], _, h, _ => h.elim
theorem vals_at : ∀ {xs : List V} {us : List Value} {i : Nat} {u : Value}, Vals xs us → us[i]? = some u → ∃ x, xs[i]? = some x ∧ RelV x u
  | _, _, i, u, .nil, h => by simp at h
  | x :: xs, v :: us, 0, u, .cons a b, h => by
    cases h
    exact ⟨x, rfl, a⟩
  | x :: xs, v :: us, i + 1, u, .cons a b, h => vals_at (i := i) b h
theorem tups_at {K : PySem.W.Frag} {H : Hp} : ∀ {xs : List V} {ls : List (List Int)} {i : Nat} {x : V}, TupsAt K H xs ls → xs[i]? = some x → ∃ l t, ls[i]? = some l ∧ x = .ref t ∧ SqT K H t (l.map V.int)
  | [], _, i, x, _, h => by simp at h
  | x :: xs, l :: ls, 0, _, ⟨⟨t, e, h⟩, _⟩, q => by cases q; exact ⟨l, t, rfl, e, h⟩
  | x :: xs, l :: ls, i + 1, y, ⟨_, h2⟩, q => tups_at (i := i) h2 q
  | _ :: _, [], _, _, h, _ => h.elim
theorem ti_same {h : Heap} {v : Value} {a b : List Int} (x : PySem.W.Holds h v (⟨a⟩ : TI)) (y : PySem.W.Holds h v (⟨b⟩ : TI)) : a = b := by
  obtain ⟨as, x⟩ := x
  obtain ⟨bs, y⟩ := y
  have e := PySem.W.alike_unique _ _ _ _ _ (PySem.W.DatumOrd.alike (⟨a⟩ : TI) ⟨b⟩) x y
  have z := PySem.W.Datum.eqv (⟨a⟩ : TI) ⟨b⟩
  rw [e, PySem.W.Datum.eqv] at z
  have z2 : (⟨a⟩ : TI) = ⟨b⟩ := of_decide_eq_true (z.symm.trans (decide_eq_true rfl))
  exact PySem.W.Tup.mk.inj z2
def rMinT (K : PySem.W.Frag) : List V → Hp → VK → Prop := fun vs H Q => ∃ (a : Addr) (xs : List V) (n : List Int) (ns : List (List Int)), vs = [V.ref a] ∧ SqL K H a xs ∧ TupsAt K H xs (n :: ns) ∧ ∀ (i : Nat) (y : V), xs[i]? = some y → (n :: ns)[i]? = some (minL n ns) → Q y H
theorem cr_minT {X : Cx} (hc : X.calm = true) (hu : X.A.units + 4 < cLine) : CallR X (.builtin "min") (rMinT X.K) := by
  intro pins s σ H vs us Q I r ⟨a, xs, n, ns, e, hs, ht, q⟩
  subst e
  obtain ⟨its, rv, hl, _⟩ := I.list hs
  rw [Vals.ref1 r]
  have hd := tups_hold I ht rv
  rw [List.map_cons] at hd
  refine PySem.W.min_list_datum (α := TI) (I.ok.hd hc) hl.isList (by simpa using hd) (show X.A.units + 1 + (0 + 1) < cLine by omega) fun i v h' tk hi hv hk => ?_
  have hi' : its[i]? = some v := by simpa using hi
  obtain ⟨y, hy, ry⟩ := vals_at rv hi'
  obtain ⟨l, t, hl2, ey, ht2⟩ := tups_at ht hy
  subst ey
  cases ry
  have I2 : Inv X pins σ H { s with heap := h', toks := tk } := I.kept hk
  rw [minOf_ti] at hv
  have e2 := ti_same hv (tup_holds I2 ht2)
  exact ⟨.ref t, H, I2, rfl, q i _ hy (by rw [hl2, e2])⟩
def tupsOf : List D → Option (List (List Int))
  | [] => some []
  | .tup ds :: r => match D.ints ds, tupsOf r with
    | some l, some ls => some (l :: ls)
    | _, _ => none
  | _ :: _ => none
/-- min of a list of tuples of ints -/
def oMinT : D → R S
  | .lst ds => match tupsOf ds with
    | some (n :: ns) => .ok (.val (.tup ((minL n ns).map .int)))
    | _ => .bad
  | _ => .bad
theorem tups_of {K : PySem.W.Frag} {N : Addr → Prop} {H : Hp} {T : Tkn} : ∀ {ds : List D} {ls : List (List Int)} {xs : List V}, tupsOf ds = some ls → RepL K N H ds xs → TupsAt K H xs ls ∧ ∀ (i : Nat) (y : V) (l : List Int), xs[i]? = some y → ls[i]? = some l → Rep K N H (.tup (l.map .int)) y
  | [], ls, xs, h, r => by
    have r' : xs = [] := r
    simp only [tupsOf, Option.some.injEq] at h
    subst h r'
    exact ⟨trivial, fun i y l hy => by simp at hy⟩
  | d :: ds, ls, xs, h, ⟨y, ys, e, r1, r2⟩ => by
    cases d <;> simp only [tupsOf] at h <;> first | cases h; done | skip
    rename_i es
    split at h
    · rename_i l ls' h1 h2
      cases h
      have q1 := ints_some h1
      subst q1
      obtain ⟨t1, t2⟩ := tups_of h2 r2
      subst e
      have r1' := r1
      obtain ⟨a, zs, ea, s1, rz⟩ := r1
      rw [rz.ints] at s1
      refine ⟨⟨⟨a, ea, sqt s1⟩, t1⟩, fun i z m hz hm => ?_⟩
      cases i with
      | zero => cases hz; cases hm; exact r1'
      | succ i => exact t2 i z m hz hm
    · cases h
theorem o_minT {K : PySem.W.Frag} : C1 K (rMinT K) oMinT := by
  intro T N H d x Q rd h
  cases d <;> first | exact False.elim h | skip
  rename_i ds
  obtain ⟨a, xs, rfl, s1, r1⟩ := rd
  unfold oMinT at h
  cases e : tupsOf ds with
  | none => simp only [e] at h; exact False.elim h
  | some ls =>
    cases ls with
    | nil => simp only [e] at h; exact False.elim h
    | cons n ns =>
      simp only [e] at h
      obtain ⟨t1, t2⟩ := tups_of e r1
      refine ⟨a, xs, n, ns, rfl, .inl (.inl s1.2), t1, fun i y hy hi => h y H (Same.refl H) ?_⟩
      exact (t2 i y _ hy hi).mono fun a z => .inl z
theorem flat_ints : ∀ l : List Int, D.flat (.tup (l.map .int)) = true
  | [] => rfl
  | _ :: l => flat_ints l
theorem nf_minT : NoEx1 oMinT ∧ Fl1 oMinT := by
  refine ⟨fun d e h => ?_, fun d s h => ?_⟩ <;> unfold oMinT at h <;> split at h <;> (try split at h) <;> cases h <;> exact ⟨_, rfl, flat_ints _⟩
section
variable {X : Cx} {W : Wi} {a b : Expr} {m n : Ex} {l k : List Nat} {p pos : Pos}
theorem x_gtT (hu : X.A.units + 65 < cLine) (ha : SE X W a m l) (hb : SE X W b n k) : SE X W (.Compare a [.Gt] [b] pos) (eOp2 oGtT m n) [] := x_cmp (op_gtT (by omega)) o_gtT nx_gtT fl_gtT ha hb (nomark b)
theorem t_gtT (hu : X.A.units + 65 < cLine) (ha : SE X W a m l) (hb : SE X W b n k) : ST X W (.Compare a [.Gt] [b] pos) (tVal (eOp2 oGtT m n)) := t_cmp (op_gtT (by omega)) o_gtT nx_gtT ha hb (nomark b)
theorem x_minT (hu : X.A.units + 65 < cLine) (hc : X.calm = true) (hm : X.mg "min" = none) (ha : SE X W a m l) (hg : Gl X "min" := by rfl) (he : starEach [a] X.env = (false, eval a X.env) :: starEach [] X.env := by rfl) (hpl : (backTo pos (starEach ([] : List Expr) X.env)).any (·.1) = false := by rfl) :
    SE X W (.Call (.Name "min" p) [a] [] pos) (eOp1 oMinT m) [] := x_flat (x_b1 (cr_minT hc (by omega)) o_minT nf_minT.1 hm (by decide +kernel) ha hg (by decide) (by decide) he hpl) (fl_e1 nf_minT.2)
end
end Tg

/-! Tg, part 16: the plain side: how a pure run is stepped through by simp, loops by invariants. -/
namespace Tg
open PySem L2

/-- r comes to a value with P, or to an exception with E -/
def W {α : Type} (r : R α) (P : α → Prop) (E : D → Prop) : Prop := match r with
  | .ok a => P a
  | .ex d => E d
  | .bad => False
def NE : D → Prop := fun _ => False
section
variable {α β : Type} {P P' : α → Prop} {E : D → Prop}
@[simp] theorem W_ok {a : α} : W (.ok a) P E ↔ P a := Iff.rfl
@[simp] theorem W_ex {d : D} : W (.ex d : R α) P E ↔ E d := Iff.rfl
@[simp] theorem W_bad : W (.bad : R α) P E ↔ False := Iff.rfl
theorem W_bind {r : R β} {f : β → R α} : W (r.bind f) P E ↔ W r (fun x => W (f x) P E) E := by cases r <;> rfl
theorem W_mono {r : R α} (h : W r P E) (f : ∀ a, P a → P' a) : W r P' E := by cases r <;> first | exact f _ h | exact h
theorem W_exq {r : R α} {d : D} (h : W r (fun _ => False) (· = d)) : r = .ex d := by
  cases r with
  | ok b => exact (h : False).elim
  | ex c => cases (show c = d from h); rfl
  | bad => exact (h : False).elim
theorem W_both {r : R α} {a : α} {d : D} {c : Prop} [Decidable c] (h : W r (fun x => x = a ∧ c) (fun x => x = d ∧ ¬ c)) : r = if c then .ok a else .ex d := by
  cases r with
  | ok b =>
    obtain ⟨h1, h2⟩ := (h : b = a ∧ c)
    rw [if_pos h2, h1]
  | ex x =>
    obtain ⟨h1, h2⟩ := (h : x = d ∧ ¬ c)
    rw [if_neg h2, h1]
  | bad => exact (h : False).elim
theorem W_eq {r : R α} {a : α} (h : W r (· = a) NE) : r = .ok a := by
  cases r with
  | ok b => cases (show b = a from h); rfl
  | ex d => exact h.elim
  | bad => exact h.elim
theorem W_ex' {r : R α} (h : W r P NE) : ∃ a, r = .ok a ∧ P a := by
  cases r with
  | ok b => exact ⟨b, rfl, h⟩
  | ex d => exact h.elim
  | bad => exact h.elim
/-- a call of what keeps a promise -/
theorem W_then {r : R β} {Q : β → Prop} {f : β → R α} (h : W r Q E) (g : ∀ x, Q x → W (f x) P E) : W (r.bind f) P E := W_bind.2 (W_mono h g)
@[simp] theorem W_ite {c : Prop} [Decidable c] {r : R α} : W (if c then r else .bad) P E ↔ c ∧ W r P E := by
  by_cases h : c
  · rw [if_pos h]; exact ⟨fun z => ⟨h, z⟩, fun z => z.2⟩
  · rw [if_neg h]; exact ⟨fun z => z.elim, fun z => h z.1⟩
end
def kc {α β γ : Type} (f : α → R β) (g : β → R γ) (x : α) : R γ := (f x).bind g
@[simp] theorem kc_eq {α β γ : Type} (f : α → R β) (g : β → R γ) (x : α) : kc f g x = (f x).bind g := rfl
@[simp] theorem bind_bind {α β γ : Type} (r : R α) (f : α → R β) (g : β → R γ) : (r.bind f).bind g = r.bind (kc f g) := by cases r <;> rfl
@[simp] theorem ite_bind {α β : Type} {c : Prop} [Decidable c] (r : R α) (f : α → R β) : (if c then r else .bad).bind f = if c then r.bind f else .bad := by split <;> rfl

/-! expressions -/
@[simp] theorem eVar_eq (i : Nat) (e : En) : eVar i e = match e[i]? with
  | some (some s) => s.rd
  | _ => .bad := rfl
@[simp] theorem eC_eq (d : D) (e : En) : eC d e = .ok (.val d) := rfl
def k1 (f : D → R S) (x : S) : R S := f x.d
@[simp] theorem k1_eq (f : D → R S) (x : S) : k1 f x = f x.d := rfl
@[simp] theorem eOp1_eq (f : D → R S) (a : Ex) (e : En) : eOp1 f a e = (a e).bind (k1 f) := rfl
def k2b (f : D → D → R S) (x y : S) : R S := f x.d y.d
@[simp] theorem k2b_eq (f : D → D → R S) (x y : S) : k2b f x y = f x.d y.d := rfl
def k2 (f : D → D → R S) (b : Ex) (e : En) (x : S) : R S := (b e).bind (k2b f x)
@[simp] theorem k2_eq (f : D → D → R S) (b : Ex) (e : En) (x : S) : k2 f b e x = (b e).bind (k2b f x) := rfl
@[simp] theorem eOp2_eq (f : D → D → R S) (a b : Ex) (e : En) : eOp2 f a b e = (a e).bind (k2 f b e) := rfl
@[simp] theorem aNil_eq (e : En) : aNil e = .ok [] := rfl
def ka2 (x : S) (xs : List D) : R (List D) := .ok (x.d :: xs)
@[simp] theorem ka2_eq (x : S) (xs : List D) : ka2 x xs = .ok (x.d :: xs) := rfl
def ka1 (r : Ax) (e : En) (x : S) : R (List D) := (r e).bind (ka2 x)
@[simp] theorem ka1_eq (r : Ax) (e : En) (x : S) : ka1 r e x = (r e).bind (ka2 x) := rfl
@[simp] theorem aCons_eq (a : Ex) (r : Ax) (e : En) : aCons a r e = (a e).bind (ka1 r e) := rfl
def ktup (ds : List D) : R S := .ok (.val (.tup ds))
@[simp] theorem ktup_eq (ds : List D) : ktup ds = .ok (.val (.tup ds)) := rfl
@[simp] theorem eTup_eq (a : Ax) (e : En) : eTup a e = (a e).bind ktup := rfl
def klst (ds : List D) : R S := .ok (.own ds)
@[simp] theorem klst_eq (ds : List D) : klst ds = .ok (.own ds) := rfl
@[simp] theorem eLst_eq (a : Ax) (e : En) : eLst a e = (a e).bind klst := rfl
@[simp] theorem eCall_eq (f : List D → R S) (a : Ax) (e : En) : eCall f a e = (a e).bind f := rfl
def kand (b : Ex) (e : En) (x : S) : R S := match x.d with
  | .bl true => b e
  | .bl false => .ok (.val (.bl false))
  | _ => .bad
@[simp] theorem kand_t (b : Ex) (e : En) : kand b e (.val (.bl true)) = b e := rfl
@[simp] theorem kand_f (b : Ex) (e : En) : kand b e (.val (.bl false)) = .ok (.val (.bl false)) := rfl
@[simp] theorem eAnd_eq (a b : Ex) (e : En) : eAnd a b e = (a e).bind (kand b e) := rfl
def kor (b : Ex) (e : En) (x : S) : R S := match x.d with
  | .bl true => .ok (.val (.bl true))
  | .bl false => b e
  | _ => .bad
@[simp] theorem kor_t (b : Ex) (e : En) : kor b e (.val (.bl true)) = .ok (.val (.bl true)) := rfl
@[simp] theorem kor_f (b : Ex) (e : En) : kor b e (.val (.bl false)) = b e := rfl
@[simp] theorem eOr_eq (a b : Ex) (e : En) : eOr a b e = (a e).bind (kor b e) := rfl
def kM (g : D → Bool) (f : D → D → R S) (b : Ex) (e : En) (x : S) : R S := if g x.d = true then (b e).bind (k2b f x) else .bad
@[simp] theorem kM_eq (g : D → Bool) (f : D → D → R S) (b : Ex) (e : En) (x : S) : kM g f b e x = if g x.d = true then (b e).bind (k2b f x) else .bad := rfl
@[simp] theorem eM_eq (g : D → Bool) (f : D → D → R S) (a b : Ex) (e : En) : eM g f a b e = (a e).bind (kM g f b e) := rfl
@[simp] theorem isS_str (s : List Nat) : (D.str s).isS = true := rfl
@[simp] theorem isL_lst (s : List D) : (D.lst s).isL = true := rfl
def kdic (kvs : List (List Nat × D)) (x : S) : R S := match x.d with
  | .str s => (match lookD kvs s with
    | some d => .ok (.val d)
    | none => .bad)
  | _ => .bad
@[simp] theorem kdic_eq (kvs : List (List Nat × D)) (s : List Nat) : kdic kvs (.val (.str s)) = match lookD kvs s with
    | some d => .ok (.val d)
    | none => .bad := rfl
@[simp] theorem eDic_eq (kvs : List (List Nat × D)) (k : Ex) (e : En) : eDic kvs k e = (k e).bind (kdic kvs) := rfl
/-! tests -/
def ktv (x : S) : R Bool := match x.d with
  | .bl b => .ok b
  | _ => .bad
@[simp] theorem ktv_eq (b : Bool) : ktv (.val (.bl b)) = .ok b := rfl
@[simp] theorem tVal_eq (a : Ex) (e : En) : tVal a e = (a e).bind ktv := rfl
def ktand (b : Tx) (e : En) (c : Bool) : R Bool := if c = true then b e else .ok false
@[simp] theorem ktand_t (b : Tx) (e : En) : ktand b e true = b e := rfl
@[simp] theorem ktand_f (b : Tx) (e : En) : ktand b e false = .ok false := rfl
@[simp] theorem tAnd_eq (a b : Tx) (e : En) : tAnd a b e = (a e).bind (ktand b e) := rfl
def ktor (b : Tx) (e : En) (c : Bool) : R Bool := if c = true then .ok true else b e
@[simp] theorem ktor_t (b : Tx) (e : En) : ktor b e true = .ok true := rfl
@[simp] theorem ktor_f (b : Tx) (e : En) : ktor b e false = b e := rfl
@[simp] theorem tOr_eq (a b : Tx) (e : En) : tOr a b e = (a e).bind (ktor b e) := rfl
def ktn (c : Bool) : R Bool := .ok (!c)
@[simp] theorem ktn_eq (c : Bool) : ktn c = .ok (!c) := rfl
@[simp] theorem tNot_eq (a : Tx) (e : En) : tNot a e = (a e).bind ktn := rfl
@[simp] theorem tTrue_eq (e : En) : tTrue e = .ok true := rfl
/-- and, or of tests that need no guard -/
theorem ktand_ok {b : Tx} {e : En} {c q : Bool} (h : b e = .ok q) : ktand b e c = .ok (c && q) := by cases c <;> simp [h]
theorem ktor_ok {b : Tx} {e : En} {c q : Bool} (h : b e = .ok q) : ktor b e c = .ok (c || q) := by cases c <;> simp [h]
/-! targets, walks -/
@[simp] theorem gName_eq (i : Nat) (d : D) (e : En) : gName i d e = .ok (e.set i (some (.val d))) := rfl
@[simp] theorem gNil_eq (e : En) : gNil [] e = .ok e := rfl
def kg (u : Tts) (r : List D) (e : En) : R En := u r e
@[simp] theorem kg_eq (u : Tts) (r : List D) (e : En) : kg u r e = u r e := rfl
@[simp] theorem gCons_eq (t : Tt) (u : Tts) (d : D) (r : List D) (e : En) : gCons t u (d :: r) e = (t d e).bind (kg u r) := rfl
@[simp] theorem gTup_eq (n : Nat) (u : Tts) (ds : List D) (e : En) : gTup n u (.tup ds) e = if ds.length = n then u ds e else .bad := rfl
def kcomp (al vs : List Nat) (t : Tt) (c : Tx) (m : Ex) (e : En) (ds : List D) : R S := match compL t c m (wipeE (freeze al e) vs) ds with
  | .ok ys => if ys.length ≤ 65536 then .ok (.own ys) else .bad
  | _ => .bad
@[simp] theorem eComp_eq (al vs : List Nat) (it : Ax) (t : Tt) (c : Tx) (m : Ex) (e : En) : eComp al vs it t c m e = (it e).bind (kcomp al vs t c m e) := rfl
def kit (s : S) : R (List D) := match s.d with
  | .lst ds => .ok ds
  | .tup ds => .ok ds
  | .str cs => .ok (cs.map fun c => D.str [c])
  | _ => .bad
@[simp] theorem kit_own (ds : List D) : kit (.own ds) = .ok ds := rfl
@[simp] theorem kit_lst (ds : List D) : kit (.val (.lst ds)) = .ok ds := rfl
@[simp] theorem kit_tup (ds : List D) : kit (.val (.tup ds)) = .ok ds := rfl
@[simp] theorem kit_str (cs : List Nat) : kit (.val (.str cs)) = .ok (cs.map fun c => D.str [c]) := rfl
@[simp] theorem aIter_eq (a : Ex) (e : En) : aIter a e = (a e).bind kit := rfl
def krg1 (y : S) : R (List D) := match y.d with
  | .int j => if -1000000 ≤ j ∧ j ≤ 1000000 then .ok (rangeL 0 j) else .bad
  | _ => .bad
@[simp] theorem krg1_eq (j : Int) : krg1 (.val (.int j)) = if -1000000 ≤ j ∧ j ≤ 1000000 then .ok (rangeL 0 j) else .bad := rfl
@[simp] theorem aRange1_eq (a : Ex) (e : En) : aRange1 a e = (a e).bind krg1 := rfl
def krg2b (x y : S) : R (List D) := match x.d, y.d with
  | .int i, .int j => if -1000000 ≤ i ∧ i ≤ 1000000 ∧ -1000000 ≤ j ∧ j ≤ 1000000 then .ok (rangeL i j) else .bad
  | _, _ => .bad
@[simp] theorem krg2b_eq (i j : Int) : krg2b (.val (.int i)) (.val (.int j)) = if -1000000 ≤ i ∧ i ≤ 1000000 ∧ -1000000 ≤ j ∧ j ≤ 1000000 then .ok (rangeL i j) else .bad := rfl
def krg2 (b : Ex) (e : En) (x : S) : R (List D) := (b e).bind (krg2b x)
@[simp] theorem krg2_eq (b : Ex) (e : En) (x : S) : krg2 b e x = (b e).bind (krg2b x) := rfl
@[simp] theorem aRange_eq (a b : Ex) (e : En) : aRange a b e = (a e).bind (krg2 b e) := rfl
def kzb (x y : S) : R (List D) := match x.d, y.d with
  | .lst ds, .lst es => .ok (zipD ds es)
  | .tup ds, .tup es => .ok (zipD ds es)
  | _, _ => .bad
@[simp] theorem kzb_ll (x y : S) {ds es : List D} (h : x.d = .lst ds) (h2 : y.d = .lst es) : kzb x y = .ok (zipD ds es) := by unfold kzb; rw [h, h2]
@[simp] theorem kzb_tt (ds es : List D) : kzb (.val (.tup ds)) (.val (.tup es)) = .ok (zipD ds es) := rfl
def kz (b : Ex) (e : En) (x : S) : R (List D) := (b e).bind (kzb x)
@[simp] theorem kz_eq (b : Ex) (e : En) (x : S) : kz b e x = (b e).bind (kzb x) := rfl
@[simp] theorem aZip_eq (a b : Ex) (e : En) : aZip a b e = (a e).bind (kz b e) := rfl
def ken (x : S) : R (List D) := match x.d with
  | .lst ds => .ok (enumD 0 ds)
  | _ => .bad
@[simp] theorem ken_own (ds : List D) : ken (.own ds) = .ok (enumD 0 ds) := rfl
@[simp] theorem ken_lst (ds : List D) : ken (.val (.lst ds)) = .ok (enumD 0 ds) := rfl
@[simp] theorem aEnum_eq (a : Ex) (e : En) : aEnum a e = (a e).bind ken := rfl
def ker1 (mk : List D → S) (y : S) : R S := match y.d with
  | .int j => if -1000000 ≤ j ∧ j ≤ 1000000 then .ok (mk (rangeL 0 j)) else .bad
  | _ => .bad
@[simp] theorem ker1_eq (mk : List D → S) (j : Int) : ker1 mk (.val (.int j)) = if -1000000 ≤ j ∧ j ≤ 1000000 then .ok (mk (rangeL 0 j)) else .bad := rfl
@[simp] theorem eRg1_eq (mk : List D → S) (a : Ex) (e : En) : eRg1 mk a e = (a e).bind (ker1 mk) := rfl
@[simp] theorem mkO_eq (ds : List D) : mkO ds = .own ds := rfl
@[simp] theorem mkT_eq (ds : List D) : mkT ds = .val (.tup ds) := rfl
/-! slices -/
@[simp] theorem pNone_eq (e : En) : pNone e = .ok none := rfl
def kps (s : S) : R (Option Int) := match s.d with
  | .int i => .ok (some i)
  | _ => .bad
@[simp] theorem kps_eq (i : Int) : kps (.val (.int i)) = .ok (some i) := rfl
@[simp] theorem pSome_eq (a : Ex) (e : En) : pSome a e = (a e).bind kps := rfl
def ksl3 (s : S) (i : Option Int) (j : Option Int) : R S := oSl i j s.d
@[simp] theorem ksl3_eq (s : S) (i j : Option Int) : ksl3 s i j = oSl i j s.d := rfl
def ksl2 (hi : Ox) (e : En) (s : S) (i : Option Int) : R S := (hi e).bind (ksl3 s i)
@[simp] theorem ksl2_eq (hi : Ox) (e : En) (s : S) (i : Option Int) : ksl2 hi e s i = (hi e).bind (ksl3 s i) := rfl
def ksl1 (lo hi : Ox) (e : En) (s : S) : R S := (lo e).bind (ksl2 hi e s)
@[simp] theorem ksl1_eq (lo hi : Ox) (e : En) (s : S) : ksl1 lo hi e s = (lo e).bind (ksl2 hi e s) := rfl
@[simp] theorem eSl_eq (a : Ex) (lo hi : Ox) (e : En) : eSl a lo hi e = (a e).bind (ksl1 lo hi e) := rfl
/-! isinstance -/
def kis (c : String) (s : S) : R S := match isT s.d with
  | some T => (match kitB T c with
    | some b => .ok (.val (.bl b))
    | none => .bad)
  | none => .bad
@[simp] theorem eIs_eq (c : String) (a : Ex) (e : En) : eIs c a e = (a e).bind (kis c) := rfl

@[simp] theorem kis_bool_non  : kis "bool" (.val .non) = .ok (.val (.bl false)) := rfl
@[simp] theorem kis_bool_bl (b : Bool) : kis "bool" (.val (.bl b)) = .ok (.val (.bl true)) := rfl
@[simp] theorem kis_bool_int (b : Int) : kis "bool" (.val (.int b)) = .ok (.val (.bl false)) := rfl
@[simp] theorem kis_bool_str (b : List Nat) : kis "bool" (.val (.str b)) = .ok (.val (.bl false)) := rfl
@[simp] theorem kis_bool_tup (b : List D) : kis "bool" (.val (.tup b)) = .ok (.val (.bl false)) := rfl
@[simp] theorem kis_bool_lst (b : List D) : kis "bool" (.val (.lst b)) = .ok (.val (.bl false)) := rfl
@[simp] theorem kis_int_non  : kis "int" (.val .non) = .ok (.val (.bl false)) := rfl
@[simp] theorem kis_int_bl (b : Bool) : kis "int" (.val (.bl b)) = .ok (.val (.bl true)) := rfl
@[simp] theorem kis_int_int (b : Int) : kis "int" (.val (.int b)) = .ok (.val (.bl true)) := rfl
@[simp] theorem kis_int_str (b : List Nat) : kis "int" (.val (.str b)) = .ok (.val (.bl false)) := rfl
@[simp] theorem kis_int_tup (b : List D) : kis "int" (.val (.tup b)) = .ok (.val (.bl false)) := rfl
@[simp] theorem kis_int_lst (b : List D) : kis "int" (.val (.lst b)) = .ok (.val (.bl false)) := rfl
@[simp] theorem kis_str_non  : kis "str" (.val .non) = .ok (.val (.bl false)) := rfl
@[simp] theorem kis_str_bl (b : Bool) : kis "str" (.val (.bl b)) = .ok (.val (.bl false)) := rfl
@[simp] theorem kis_str_int (b : Int) : kis "str" (.val (.int b)) = .ok (.val (.bl false)) := rfl
@[simp] theorem kis_str_str (b : List Nat) : kis "str" (.val (.str b)) = .ok (.val (.bl true)) := rfl
@[simp] theorem kis_str_tup (b : List D) : kis "str" (.val (.tup b)) = .ok (.val (.bl false)) := rfl
@[simp] theorem kis_str_lst (b : List D) : kis "str" (.val (.lst b)) = .ok (.val (.bl false)) := rfl
@[simp] theorem kis_tuple_non  : kis "tuple" (.val .non) = .ok (.val (.bl false)) := rfl
@[simp] theorem kis_tuple_bl (b : Bool) : kis "tuple" (.val (.bl b)) = .ok (.val (.bl false)) := rfl
@[simp] theorem kis_tuple_int (b : Int) : kis "tuple" (.val (.int b)) = .ok (.val (.bl false)) := rfl
@[simp] theorem kis_tuple_str (b : List Nat) : kis "tuple" (.val (.str b)) = .ok (.val (.bl false)) := rfl
@[simp] theorem kis_tuple_tup (b : List D) : kis "tuple" (.val (.tup b)) = .ok (.val (.bl true)) := rfl
@[simp] theorem kis_tuple_lst (b : List D) : kis "tuple" (.val (.lst b)) = .ok (.val (.bl false)) := rfl
@[simp] theorem kis_list_non  : kis "list" (.val .non) = .ok (.val (.bl false)) := rfl
@[simp] theorem kis_list_bl (b : Bool) : kis "list" (.val (.bl b)) = .ok (.val (.bl false)) := rfl
@[simp] theorem kis_list_int (b : Int) : kis "list" (.val (.int b)) = .ok (.val (.bl false)) := rfl
@[simp] theorem kis_list_str (b : List Nat) : kis "list" (.val (.str b)) = .ok (.val (.bl false)) := rfl
@[simp] theorem kis_list_tup (b : List D) : kis "list" (.val (.tup b)) = .ok (.val (.bl false)) := rfl
@[simp] theorem kis_list_lst (b : List D) : kis "list" (.val (.lst b)) = .ok (.val (.bl true)) := rfl

def kisX (tab : List (String × Bool)) (s : S) : R S := match s.d with
  | .exc nm _ => (match tab.lookup nm with
    | some b => .ok (.val (.bl b))
    | none => .bad)
  | _ => .bad
@[simp] theorem kisX_eq (tab : List (String × Bool)) (nm : String) (fs : List D) : kisX tab (.val (.exc nm fs)) = match tab.lookup nm with
    | some b => .ok (.val (.bl b))
    | none => .bad := rfl
@[simp] theorem eIsX_eq (tab : List (String × Bool)) (m : Ex) (e : En) : eIsX tab m e = (m e).bind (kisX tab) := rfl
@[simp] theorem sRaise_eq (nm : String) (e : En) : sRaise nm e = .ex (.exc nm []) := rfl
def kTry (i j : Nat) (cs : List String) (e : En) (r : R Fl) : R Fl := match r with
  | .ok f => .ok f
  | .ex (.exc nm fs) => if nm ∈ cs ∧ i < e.length then .ok (.nx (((e.set i none).set j (some (.val (.exc nm fs)))).set i none)) else .bad
  | .ex _ => .bad
  | .bad => .bad
@[simp] theorem kTry_ok (i j : Nat) (cs : List String) (e : En) (f : Fl) : kTry i j cs e (.ok f) = .ok f := rfl
@[simp] theorem kTry_ex (i j : Nat) (cs : List String) (e : En) (nm : String) (fs : List D) : kTry i j cs e (.ex (.exc nm fs)) = if nm ∈ cs ∧ i < e.length then .ok (.nx (((e.set i none).set j (some (.val (.exc nm fs)))).set i none)) else .bad := rfl
@[simp] theorem sTry_eq (i j : Nat) (cs : List String) (M : Sx) (e : En) : sTry i j cs M e = kTry i j cs e (M e) := by
  unfold sTry kTry
  rfl
@[simp] theorem flat_exc (c : String) (fs : List D) : (D.exc c fs).flat = D.flatL fs := rfl
@[simp] theorem isNon_exc (c : String) (fs : List D) : isNon (.exc c fs) = false := rfl

/-! statements -/
@[simp] theorem sNop_eq (e : En) : sNop e = .ok (.nx e) := rfl
def cont (b : Sx) (f : Fl) : R Fl := match f with
  | .nx e' => b e'
  | .rt s => .ok (.rt s)
@[simp] theorem cont_nx (b : Sx) (e : En) : cont b (.nx e) = b e := rfl
@[simp] theorem cont_rt (b : Sx) (s : S) : cont b (.rt s) = .ok (.rt s) := rfl
@[simp] theorem sSeq_eq (a b : Sx) (e : En) : sSeq a b e = (a e).bind (cont b) := rfl
def kset (al : List Nat) (i : Nat) (e : En) (s : S) : R Fl := .ok (.nx ((keep al s.flat e).set i (some s)))
@[simp] theorem kset_eq (al : List Nat) (i : Nat) (e : En) (s : S) : kset al i e s = .ok (.nx ((keep al s.flat e).set i (some s))) := rfl
@[simp] theorem sSet_eq (al : List Nat) (i : Nat) (a : Ex) (e : En) : sSet al i a e = (a e).bind (kset al i e) := rfl
@[simp] theorem sMove_eq (i j : Nat) (e : En) : sMove i j e = match e[j]? with
  | some (some (.own ds)) => .ok (.nx ((e.set j none).set i (some (.own ds))))
  | some (some (.val d)) => .ok (.nx (e.set i (some (.val d))))
  | _ => .bad := rfl
def knx (e : En) : R Fl := .ok (.nx e)
@[simp] theorem knx_eq (e : En) : knx e = .ok (.nx e) := rfl
def kasg (al : List Nat) (t : Tt) (e : En) (s : S) : R Fl := (t s.d (keep al s.flat e)).bind knx
@[simp] theorem kasg_eq (al : List Nat) (t : Tt) (e : En) (s : S) : kasg al t e s = (t s.d (keep al s.flat e)).bind knx := rfl
@[simp] theorem sAsg_eq (al : List Nat) (t : Tt) (a : Ex) (e : En) : sAsg al t a e = (a e).bind (kasg al t e) := rfl
def kdrop (e : En) (s : S) : R Fl := .ok (.nx e)
@[simp] theorem kdrop_eq (e : En) (s : S) : kdrop e s = .ok (.nx e) := rfl
@[simp] theorem sDrop_eq (a : Ex) (e : En) : sDrop a e = (a e).bind (kdrop e) := rfl
def kret (s : S) : R Fl := .ok (.rt s)
@[simp] theorem kret_eq (s : S) : kret s = .ok (.rt s) := rfl
@[simp] theorem sRet_eq (a : Ex) (e : En) : sRet a e = (a e).bind kret := rfl
@[simp] theorem sRetN_eq (e : En) : sRetN e = .ok (.rt (.val .non)) := rfl
@[simp] theorem sRetV_eq (i : Nat) (e : En) : sRetV i e = match e[i]? with
  | some (some s) => s.rt
  | _ => .bad := rfl
def kif (a b : Sx) (e : En) (k : Bool) : R Fl := if k = true then a e else b e
@[simp] theorem kif_t (a b : Sx) (e : En) : kif a b e true = a e := rfl
@[simp] theorem kif_f (a b : Sx) (e : En) : kif a b e false = b e := rfl
@[simp] theorem sIf_eq (c : Tx) (a b : Sx) (e : En) : sIf c a b e = (c e).bind (kif a b e) := rfl
def kfor (t : Tt) (b : Sx) (e : En) (ds : List D) : R Fl := forL t b ds e
@[simp] theorem sFor_eq (al : List Nat) (it : Ax) (t : Tt) (b : Sx) (e : En) : sFor al it t b e = (it e).bind (kfor t b (freeze al e)) := rfl
@[simp] theorem sWhile_eq (n : Nat) (c : Tx) (b : Sx) (e : En) : sWhile n c b e = whileL c b n e := rfl
def kitem (al : List Nat) (i : Nat) (k : Ex) (e : En) (v : S) : R Fl := match k e, (keep al v.flat e)[i]? with
  | .ok (.val (.int j)), some (some (.own ds)) => (match L2.ixN ds.length j with
    | some n => .ok (.nx ((keep al v.flat e).set i (some (.own (ds.set n v.d)))))
    | none => .bad)
  | _, _ => .bad
theorem kitem_eq (al : List Nat) (i : Nat) (k : Ex) (e : En) (v : S) : kitem al i k e v = match k e, (keep al v.flat e)[i]? with
  | .ok (.val (.int j)), some (some (.own ds)) => (match L2.ixN ds.length j with
    | some n => .ok (.nx ((keep al v.flat e).set i (some (.own (ds.set n v.d)))))
    | none => .bad)
  | _, _ => .bad := rfl
@[simp] theorem sItem_eq (al : List Nat) (i : Nat) (a k : Ex) (e : En) : sItem al i a k e = (a e).bind (kitem al i k e) := rfl
@[simp] theorem sBad_eq (e : En) : sBad e = .bad := rfl
def kown2 (i : Nat) (e : En) (ds' : List D) : R Fl := .ok (.nx (e.set i (some (.own ds'))))
@[simp] theorem kown2_eq (i : Nat) (e : En) (ds' : List D) : kown2 i e ds' = .ok (.nx (e.set i (some (.own ds')))) := rfl
def kown (al : List Nat) (i : Nat) (f : List D → D → R (List D)) (e : En) (x : S) : R Fl := match (keep al x.flat e)[i]? with
    | some (some (.own ds)) => (f ds x.d).bind (kown2 i (keep al x.flat e))
    | _ => .bad
@[simp] theorem kown_eq (al : List Nat) (i : Nat) (f : List D → D → R (List D)) (e : En) (x : S) : kown al i f e x = match (keep al x.flat e)[i]? with
    | some (some (.own ds)) => (f ds x.d).bind (kown2 i (keep al x.flat e))
    | _ => .bad := rfl
@[simp] theorem sOwn_eq (al : List Nat) (i : Nat) (f : List D → D → R (List D)) (a : Ex) (e : En) : sOwn al i f a e = match e[i]? with
  | some (some (.own _)) => (a e).bind (kown al i f e)
  | _ => .bad := rfl
@[simp] theorem sClear_eq (i : Nat) (e : En) : sClear i e = match e[i]? with
  | some (some (.own _)) => .ok (.nx (e.set i (some (.own []))))
  | _ => .bad := rfl
def kins2 (al : List Nat) (i : Nat) (n : Int) (e : En) (v : S) : R Fl := match (keep al v.flat e)[i]? with
    | some (some (.own ds)) => if 0 ≤ n ∧ n ≤ 65536 ∧ ds.length ≤ 65536 then .ok (.nx ((keep al v.flat e).set i (some (.own (ds.take n.toNat ++ [v.d] ++ ds.drop n.toNat))))) else .bad
    | _ => .bad
@[simp] theorem kins2_eq (al : List Nat) (i : Nat) (n : Int) (e : En) (v : S) : kins2 al i n e v = match (keep al v.flat e)[i]? with
    | some (some (.own ds)) => if 0 ≤ n ∧ n ≤ 65536 ∧ ds.length ≤ 65536 then .ok (.nx ((keep al v.flat e).set i (some (.own (ds.take n.toNat ++ [v.d] ++ ds.drop n.toNat))))) else .bad
    | _ => .bad := rfl
@[simp] theorem sInsert_eq (al : List Nat) (i : Nat) (k a : Ex) (e : En) : sInsert al i k a e = match k e, e[i]? with
  | .ok (.val (.int n)), some (some (.own _)) => (a e).bind (kins2 al i n e)
  | _, _ => .bad := rfl
@[simp] theorem freeze1_eq (i : Nat) (e : En) : freeze1 i e = match e[i]? with
  | some (some (.own ds)) => e.set i (some (.val (.lst ds)))
  | some (some (.sto 2 _)) => e.set i (some (.both .jnk []))
  | _ => e := rfl

/-! flat data -/
@[simp] theorem flat_int (i : Int) : (D.int i).flat = true := rfl
@[simp] theorem flat_bl (i : Bool) : (D.bl i).flat = true := rfl
@[simp] theorem flat_str (i : List Nat) : (D.str i).flat = true := rfl
@[simp] theorem flat_non : D.non.flat = true := rfl
@[simp] theorem flat_tup (ds : List D) : (D.tup ds).flat = D.flatL ds := rfl
@[simp] theorem flat_lst (ds : List D) : (D.lst ds).flat = false := rfl
@[simp] theorem flat_scr (ds : List Int) : (D.scr ds).flat = true := rfl
@[simp] theorem flatL_nil : D.flatL [] = true := rfl
@[simp] theorem flatL_cons (d : D) (r : List D) : D.flatL (d :: r) = (d.flat && D.flatL r) := rfl
@[simp] theorem flatL_app : ∀ a b : List D, D.flatL (a ++ b) = (D.flatL a && D.flatL b)
  | [], b => by simp
  | d :: r, b => by simp [flatL_app r b, Bool.and_assoc]
theorem flatL_map {α : Type} {f : α → D} (h : ∀ x, (f x).flat = true) : ∀ xs : List α, D.flatL (xs.map f) = true
  | [] => rfl
  | x :: r => by simp [h x, flatL_map h r]
theorem flatL_map' {α : Type} {f : α → D} : ∀ xs : List α, (∀ x ∈ xs, (f x).flat = true) → D.flatL (xs.map f) = true
  | [], _ => rfl
  | x :: r, h => by simp [h x List.mem_cons_self, flatL_map' r fun y hy => h y (List.mem_cons_of_mem _ hy)]
theorem flatL_all : ∀ xs : List D, (∀ x ∈ xs, x.flat = true) → D.flatL xs = true
  | [], _ => rfl
  | x :: r, h => by simp [h x List.mem_cons_self, flatL_all r fun y hy => h y (List.mem_cons_of_mem _ hy)]
@[simp] theorem flatL_int (xs : List Int) : D.flatL (xs.map .int) = true := flatL_map (fun _ => rfl) xs
@[simp] theorem flatL_bl (xs : List Bool) : D.flatL (xs.map .bl) = true := flatL_map (fun _ => rfl) xs
@[simp] theorem flatL_str (xs : List (List Nat)) : D.flatL (xs.map .str) = true := flatL_map (fun _ => rfl) xs

theorem set_map_int (xs : List Int) (i : Nat) (v : Int) : (xs.map D.int).set i (.int v) = (xs.set i v).map D.int := List.map_set.symm
theorem set_map_bl (xs : List Bool) (i : Nat) (v : Bool) : (xs.map D.bl).set i (.bl v) = (xs.set i v).map D.bl := List.map_set.symm
theorem set_map_str (xs : List (List Nat)) (i : Nat) (v : List Nat) : (xs.map D.str).set i (.str v) = (xs.set i v).map D.str := List.map_set.symm

/-! operators -/
@[simp] theorem oAdd_i (i j : Int) : oAdd (.int i) (.int j) = .ok (.val (.int (i + j))) := rfl
@[simp] theorem oAdd_s (a b : List Nat) : oAdd (.str a) (.str b) = if a.length + b.length ≤ 65536 then .ok (.val (.str (a ++ b))) else .bad := rfl
@[simp] theorem oAdd_t (a b : List D) : oAdd (.tup a) (.tup b) = if a.length + b.length ≤ 65536 then .ok (.val (.tup (a ++ b))) else .bad := rfl
@[simp] theorem oAdd_l (a b : List D) : oAdd (.lst a) (.lst b) = if a.length + b.length ≤ 65536 then .ok (.own (a ++ b)) else .bad := rfl
@[simp] theorem oSub_i (i j : Int) : oSub (.int i) (.int j) = .ok (.val (.int (i - j))) := rfl
@[simp] theorem oMul_i (i j : Int) : oMul (.int i) (.int j) = if i.natAbs < 2 ^ 200 ∧ j.natAbs < 2 ^ 200 then .ok (.val (.int (i * j))) else .bad := rfl
@[simp] theorem oMul_l (a : List D) (k : Int) : oMul (.lst a) (.int k) = if k ≤ 1000 ∧ -1000 ≤ k ∧ a.length ≤ 1000 then .ok (.own (List.replicate k.toNat a).flatten) else .bad := rfl
@[simp] theorem oMul_t (a : List D) (k : Int) : oMul (.tup a) (.int k) = if a ≠ [] ∧ (k = 1 ∨ k = 0) then .ok (.val (.tup (if k = 1 then a else []))) else .bad := rfl
@[simp] theorem oMul_s (a : List Nat) (k : Int) : oMul (.str a) (.int k) = if k ≤ 1000 ∧ -1000 ≤ k ∧ a.length ≤ 1000 then .ok (.val (.str (List.replicate k.toNat a).flatten)) else .bad := rfl
@[simp] theorem oFdiv_i (i j : Int) : oFdiv (.int i) (.int j) = if 0 < j ∧ j.natAbs < 2 ^ 200 then .ok (.val (.int (i / j))) else .bad := rfl
@[simp] theorem oMod_i (i j : Int) : oMod (.int i) (.int j) = if 0 < j then .ok (.val (.int (i % j))) else .bad := rfl
@[simp] theorem oPow_i (i j : Int) : oPow (.int i) (.int j) = if 0 ≤ j ∧ j ≤ 1000 ∧ i.natAbs < 2 ^ 64 then .ok (.val (.int (i ^ j.toNat))) else .bad := rfl
@[simp] theorem oShl_i (i j : Int) : oShl (.int i) (.int j) = if 0 ≤ j ∧ j ≤ 1000 ∧ i.natAbs < 2 ^ 64 then .ok (.val (.int (i * 2 ^ j.toNat))) else .bad := rfl
@[simp] theorem oShr_i (i j : Int) : oShr (.int i) (.int j) = if 0 ≤ j then .ok (.val (.int (i / 2 ^ j.toNat))) else .bad := rfl
@[simp] theorem oAnd_i (i j : Int) : oAnd (.int i) (.int j) = .ok (.val (.int (Builtin.bitAnd i j))) := rfl
@[simp] theorem oOr_i (i j : Int) : oOr (.int i) (.int j) = .ok (.val (.int (Builtin.bitOr i j))) := rfl
@[simp] theorem oNeg_i (i : Int) : oNeg (.int i) = .ok (.val (.int (-i))) := rfl
@[simp] theorem oNot_b (b : Bool) : oNot (.bl b) = .ok (.val (.bl (!b))) := rfl
@[simp] theorem oLt_i (i j : Int) : oLt (.int i) (.int j) = .ok (.val (.bl (decide (i < j)))) := rfl
@[simp] theorem oLt_s (i j : List Nat) : oLt (.str i) (.str j) = .ok (.val (.bl (decide (i < j)))) := rfl
@[simp] theorem oLt_t (i j : List Int) : oLt (.tup (i.map .int)) (.tup (j.map .int)) = .ok (.val (.bl (HT.lexLt i j))) := by simp [oLt]
@[simp] theorem oGt_i (i j : Int) : oGt (.int i) (.int j) = .ok (.val (.bl (decide (j < i)))) := rfl
@[simp] theorem oGt_s (i j : List Nat) : oGt (.str i) (.str j) = .ok (.val (.bl (decide (j < i)))) := rfl
@[simp] theorem oLe_i (i j : Int) : oLe (.int i) (.int j) = .ok (.val (.bl (decide (i ≤ j)))) := rfl
@[simp] theorem oGe_i (i j : Int) : oGe (.int i) (.int j) = .ok (.val (.bl (decide (j ≤ i)))) := rfl
@[simp] theorem oIsN_eq (d : D) : oIsN d = .ok (.val (.bl (isNon d))) := rfl
@[simp] theorem oNotN_eq (d : D) : oNotN d = .ok (.val (.bl (!isNon d))) := rfl
@[simp] theorem isNon_non : isNon .non = true := rfl
@[simp] theorem isNon_bl (b : Bool) : isNon (.bl b) = false := rfl
@[simp] theorem isNon_int (b : Int) : isNon (.int b) = false := rfl
@[simp] theorem isNon_str (b : List Nat) : isNon (.str b) = false := rfl
@[simp] theorem isNon_tup (b : List D) : isNon (.tup b) = false := rfl
@[simp] theorem isNon_lst (b : List D) : isNon (.lst b) = false := rfl
/-- == of ints, of texts -/
theorem eqv_int (i j : Int) : PyData.eqv (D.int i).py (D.int j).py = decide (i = j) := by
  show PyData.eqv (.int i) (.int j) = _
  unfold PyData.eqv
  rw [Bool.eq_iff_iff]
  simp
@[simp] theorem oEq_i (i j : Int) : oEq (.int i) (.int j) = .ok (.val (.bl (decide (i = j)))) := by
  show R.ok (S.val (D.bl (PyData.eqv (D.int i).py (D.int j).py))) = _
  rw [eqv_int]
@[simp] theorem oNe_i (i j : Int) : oNe (.int i) (.int j) = .ok (.val (.bl (decide (i ≠ j)))) := by
  show R.ok (S.val (D.bl (!PyData.eqv (D.int i).py (D.int j).py))) = _
  rw [eqv_int, decide_not]
theorem eqv_str (a b : List Nat) : PyData.eqv (D.str a).py (D.str b).py = decide (a = b) := by
  show PyData.eqv (.str ⟨a.toArray⟩) (.str ⟨b.toArray⟩) = _
  unfold PyData.eqv
  rw [Bool.eq_iff_iff]
  simp
theorem eqv_non : PyData.eqv D.non.py D.non.py = true := rfl
theorem eqv_bl (i j : Bool) : PyData.eqv (D.bl i).py (D.bl j).py = (i == j) := by cases i <;> cases j <;> rfl
@[simp] theorem oEq_b (i j : Bool) : oEq (.bl i) (.bl j) = .ok (.val (.bl (i == j))) := by
  show R.ok (S.val (D.bl (PyData.eqv (D.bl i).py (D.bl j).py))) = _
  rw [eqv_bl]
@[simp] theorem oNe_b (i j : Bool) : oNe (.bl i) (.bl j) = .ok (.val (.bl (i != j))) := by
  show R.ok (S.val (D.bl (!PyData.eqv (D.bl i).py (D.bl j).py))) = _
  rw [eqv_bl]
  rfl
/-- an item -/
def ofO (o : Option D) : R S := match o with
  | some d => .ok (.val d)
  | none => .bad
@[simp] theorem ofO_some (d : D) : ofO (some d) = .ok (.val d) := rfl
@[simp] theorem oItem_l (ds : List D) (i : Int) : oItem (.lst ds) (.int i) = ofO (atI ds i) := by show (match atI ds i with | some d => _ | none => _) = _; cases atI ds i <;> rfl
@[simp] theorem oItem_t (ds : List D) (i : Int) : oItem (.tup ds) (.int i) = ofO (atI ds i) := by show (match atI ds i with | some d => _ | none => _) = _; cases atI ds i <;> rfl
@[simp] theorem oItem_c (ns : List Int) (i : Int) : oItem (.scr ns) (.int i) = ofO ((atI ns i).map .int) := by show (match atI ns i with | some d => _ | none => _) = _; cases atI ns i <;> rfl
@[simp] theorem oItem_s (cs : List Nat) (i : Int) : oItem (.str cs) (.int i) = if cs.length ≤ 65536 then ofO ((atI cs i).map fun c => .str [c]) else .bad := by
  show (if _ then (match atI cs i with | some d => _ | none => _) else _) = _
  cases atI cs i <;> rfl
@[simp] theorem oLen_l (ds : List D) : oLen (.lst ds) = .ok (.val (.int ds.length)) := rfl
@[simp] theorem oLen_t (ds : List D) : oLen (.tup ds) = .ok (.val (.int ds.length)) := rfl
@[simp] theorem oLen_c (ds : List Int) : oLen (.scr ds) = .ok (.val (.int ds.length)) := rfl
@[simp] theorem oLen_s (ds : List Nat) : oLen (.str ds) = if ds.length ≤ 65536 then .ok (.val (.int ds.length)) else .bad := rfl
@[simp] theorem oList_l (ds : List D) : oList (.lst ds) = .ok (.own ds) := rfl
@[simp] theorem oList_t (ds : List D) : oList (.tup ds) = .ok (.own ds) := rfl
@[simp] theorem oTuple_l (ds : List D) : oTuple (.lst ds) = .ok (.val (.tup ds)) := rfl
@[simp] theorem oTuple_t (ds : List D) : oTuple (.tup ds) = .ok (.val (.tup ds)) := rfl
@[simp] theorem oInt_i (i : Int) : oInt (.int i) = .ok (.val (.int i)) := rfl
@[simp] theorem oInt_b (b : Bool) : oInt (.bl b) = .ok (.val (.int (if b then 1 else 0))) := rfl
@[simp] theorem oMax2_i (i j : Int) : oMax2 (.int i) (.int j) = .ok (.val (.int (if j > i then j else i))) := rfl
@[simp] theorem oRev_l (ds : List D) : oRev (.lst ds) = .ok (.own ds.reverse) := rfl
@[simp] theorem oSl_l (lo hi : Option Int) (ds : List D) : oSl lo hi (.lst ds) = .ok (.own (cutL ds lo hi)) := rfl
@[simp] theorem oSl_t (lo hi : Option Int) (ds : List D) : oSl lo hi (.tup ds) = .ok (.val (.tup (cutL ds lo hi))) := rfl
@[simp] theorem oSl_c (lo hi : Option Int) (ds : List Int) : oSl lo hi (.scr ds) = .ok (.own ((cutL ds lo hi).map .int)) := rfl
@[simp] theorem oSl_s (lo hi : Option Int) (ds : List Nat) : oSl lo hi (.str ds) = if ds.length ≤ 65536 then .ok (.val (.str (cutL ds lo hi))) else .bad := rfl
@[simp] theorem oMin_t2 (x y : Int) : oMin (.tup [.int x, .int y]) = .ok (.val (.int (minI x [y]))) := rfl
@[simp] theorem oMax_t2 (x y : Int) : oMax (.tup [.int x, .int y]) = .ok (.val (.int (maxI x [y]))) := rfl
@[simp] theorem oMin_i (x : Int) (r : List Int) : oMin (.lst (.int x :: r.map .int)) = .ok (.val (.int (minI x r))) := by
  show (match D.ints (.int x :: r.map .int) with | some (x :: r) => _ | _ => _) = _
  rw [show (D.int x :: r.map D.int) = (x :: r).map D.int from rfl, ints_map]
@[simp] theorem oSum_i (r : List Int) : oSum (.lst (r.map .int)) = .ok (.val (.int r.sum)) := by
  show (match D.ints (r.map .int) with | some ns => _ | _ => _) = _
  rw [ints_map]
@[simp] theorem oAny_b (r : List Bool) : oAny (.lst (r.map .bl)) = .ok (.val (.bl (r.any id))) := by
  show (match D.bls (r.map .bl) with | some ns => _ | _ => _) = _
  rw [bls_map]
@[simp] theorem oAll_b (r : List Bool) : oAll (.lst (r.map .bl)) = .ok (.val (.bl (r.all id))) := by
  show (match D.bls (r.map .bl) with | some ns => _ | _ => _) = _
  rw [bls_map]
@[simp] theorem oSorted_l (r : List Int) : oSorted (.lst (r.map .int)) = if r.length < 64 then .ok (.own ((sortI r).map .int)) else .bad := by
  show (match D.ints (r.map .int) with | some ns => _ | _ => _) = _
  rw [ints_map]
@[simp] theorem oSorted_t (r : List Int) : oSorted (.tup (r.map .int)) = if r.length < 64 then .ok (.own ((sortI r).map .int)) else .bad := by
  show (match D.ints (r.map .int) with | some ns => _ | _ => _) = _
  rw [ints_map]
@[simp] theorem fAppend_eq (ds : List D) (d : D) : fAppend ds d = if ds.length ≤ 65536 then .ok (ds ++ [d]) else .bad := rfl
@[simp] theorem fExtend_eq (ds es : List D) : fExtend ds (.lst es) = if ds.length + es.length ≤ 65536 then .ok (ds ++ es) else .bad := rfl

@[simp] theorem oJoin_eq (sep : List Nat) (xs : List (List Nat)) : oJoin (.str sep) (.lst (xs.map .str)) = if xs.length ≤ 1000 ∧ (∀ x ∈ xs, x.length ≤ 1000) ∧ sep.length ≤ 1000 then .ok (.val (.str (joinL sep xs))) else .bad := by
  show (match D.strs (xs.map .str) with | some xs => _ | none => _) = _
  rw [strs_map]
@[simp] theorem oFind_eq (a : List Nat) (c : Nat) : oFind (.str a) (.str [c]) = if a.length ≤ 65536 then .ok (.val (.int (findN c 0 a))) else .bad := rfl
theorem joinL_nil : ∀ xs : List (List Nat), joinL [] xs = xs.flatten
  | [] => rfl
  | [x] => by simp [joinL]
  | x :: y :: r => by
    show x ++ [] ++ joinL [] (y :: r) = _
    rw [joinL_nil (y :: r)]
    simp
@[simp] theorem oNotIn_c (c : Nat) (b : List Nat) : oNotIn (.str [c]) (.str b) = .ok (.val (.bl (!decide (c ∈ b)))) := rfl
@[simp] theorem oIn_c (c : Nat) (b : List Nat) : oIn (.str [c]) (.str b) = .ok (.val (.bl (decide (c ∈ b)))) := rfl
/-! slices -/
theorem cut_to {α : Type} {xs : List α} {a : Int} (h0 : 0 ≤ a) : cutL xs none (some a) = xs.take a.toNat := by
  unfold cutL HT.sIx
  simp [show ¬ a < 0 by omega]
theorem cut_from {α : Type} {xs : List α} {a : Int} (h0 : 0 ≤ a) : cutL xs (some a) none = xs.drop a.toNat := by
  unfold cutL HT.sIx
  simp [show ¬ a < 0 by omega]
  by_cases h : a.toNat ≤ xs.length
  · rw [Nat.min_eq_left h, List.take_of_length_le (by rw [List.length_drop]; omega)]
  · rw [Nat.min_eq_right (by omega), List.drop_of_length_le (Nat.le_refl _), List.drop_of_length_le (by omega)]
    simp
/-! places -/
theorem ixN_of {n : Nat} {i : Int} (h0 : 0 ≤ i) (h1 : i < n) : ixN n i = some i.toNat := by unfold ixN; rw [if_pos h0, if_pos h1]
theorem atI_of {α : Type} {xs : List α} {i : Int} (h0 : 0 ≤ i) (h1 : i < xs.length) : atI xs i = xs[i.toNat]? := by unfold atI; rw [ixN_of h0 h1]; rfl
@[simp] theorem atI_nat' {α : Type} (xs : List α) (k : Nat) : atI xs (k : Int) = xs[k]? := by
  by_cases h : k < xs.length
  · rw [atI_of (by omega) (by omega)]; rfl
  · unfold atI ixN
    rw [if_pos (by omega), if_neg (by omega), List.getElem?_eq_none (by omega)]
    rfl
@[simp] theorem atI_0 {α : Type} (xs : List α) : atI xs 0 = xs[0]? := atI_nat' xs 0
@[simp] theorem atI_1 {α : Type} (xs : List α) : atI xs 1 = xs[1]? := atI_nat' xs 1
@[simp] theorem atI_lit {α : Type} (xs : List α) (k : Nat) : atI xs (no_index (OfNat.ofNat k : Int)) = xs[(OfNat.ofNat k : Nat)]? := atI_nat' xs k
@[simp] theorem atI_map {α β : Type} (f : α → β) (xs : List α) (i : Int) : atI (xs.map f) i = (atI xs i).map f := by
  unfold atI
  rw [List.length_map]
  cases ixN xs.length i with
  | none => rfl
  | some k => exact List.getElem?_map
theorem atI_some {α : Type} {xs : List α} {i : Int} (h0 : -(xs.length : Int) ≤ i) (h1 : i < xs.length) : ∃ x, atI xs i = some x ∧ x ∈ xs := by
  unfold atI ixN
  by_cases h : 0 ≤ i
  · rw [if_pos h, if_pos h1]
    have hk : i.toNat < xs.length := by omega
    exact ⟨xs[i.toNat], List.getElem?_eq_getElem hk, List.getElem_mem hk⟩
  · rw [if_neg h, if_pos h0]
    have hk : (i + xs.length).toNat < xs.length := by omega
    exact ⟨xs[(i + xs.length).toNat], List.getElem?_eq_getElem hk, List.getElem_mem hk⟩

def nth (a : List Int) (w : Int) : Int := (a[w.toNat]?).getD 0
theorem nth_at {a : List Int} {w : Int} (h0 : 0 ≤ w) (h1 : w < a.length) : atI a w = some (nth a w) := by
  rw [atI_of h0 h1]
  unfold nth
  rw [List.getElem?_eq_getElem (by omega)]
  rfl
/-! loops -/
def PQ (Q : En → Prop) (T : S → Prop) (f : Fl) : Prop := match f with
  | .nx e => Q e
  | .rt s => T s
@[simp] theorem PQ_nx (Q : En → Prop) (T : S → Prop) (e : En) : PQ Q T (.nx e) ↔ Q e := Iff.rfl
@[simp] theorem PQ_rt (Q : En → Prop) (T : S → Prop) (s : S) : PQ Q T (.rt s) ↔ T s := Iff.rfl
theorem runB_W {n : Nat} {b : Sx} {ds : List D} {P : S → Prop} {E : D → Prop} (h : W (b (ds.map (fun d => some (.val d)) ++ List.replicate (n - ds.length) none)) (PQ (fun _ => P (.val .non)) P) E) : W (runB n b ds) P E := by
  unfold runB
  cases hb : b (ds.map (fun d => some (.val d)) ++ List.replicate (n - ds.length) none) with
  | ok f =>
    rw [hb] at h
    cases f <;> exact h
  | ex d => rw [hb] at h; exact h
  | bad => rw [hb] at h; exact h
theorem W_for {t : Tt} {b : Sx} {P : Fl → Prop} {E : D → Prop} (I : Nat → En → Prop) {ds : List D} {e : En} (h0 : I 0 e)
    (hs : ∀ i d e, ds[i]? = some d → I i e → W ((t d e).bind b) (PQ (I (i + 1)) fun s => P (.rt s)) E) (h1 : ∀ e, I ds.length e → P (.nx e)) : W (kfor t b e ds) P E := by
  have go : ∀ (r : List D) (i : Nat) (e : En), i + r.length = ds.length → ds.drop i = r → I i e → W (forL t b r e) P E := by
    intro r
    induction r with
    | nil => exact fun i e hl hd hi => h1 e (by rw [← hl]; exact hi)
    | cons d r ih =>
      intro i e hl hd hi
      have hi2 : i < ds.length := by rw [← hl, List.length_cons]; omega
      have hd2 := List.drop_eq_getElem_cons hi2
      rw [hd] at hd2
      injection hd2 with h2 h3
      have st := hs i d e (by rw [List.getElem?_eq_getElem hi2, ← h2]) hi
      show W ((t d e).bind fun e' => (b e').bind fun f => _) P E
      rw [W_bind] at st ⊢
      refine W_mono st fun e' st' => ?_
      rw [W_bind]
      refine W_mono st' fun f hf => ?_
      cases f with
      | nx e2 => exact ih (i + 1) e2 (by rw [← hl, List.length_cons]; omega) h3.symm hf
      | rt s => exact hf
  exact go ds 0 e (by omega) rfl h0
/-- for x in range(n) -/
theorem rangeL_length (a b : Int) : (rangeL a b).length = (b - a).toNat := by unfold rangeL; rw [List.length_map, List.length_range]
theorem rangeL_get {a b : Int} {i : Nat} {d : D} (h : (rangeL a b)[i]? = some d) : d = .int (a + i) ∧ a + i < b := by
  unfold rangeL at h
  rw [List.getElem?_map] at h
  cases q : (List.range (b - a).toNat)[i]? with
  | none => rw [q] at h; cases h
  | some k =>
    rw [q] at h
    obtain ⟨h1, h2⟩ := List.getElem?_eq_some_iff.mp q
    rw [List.getElem_range] at h2
    subst h2
    rw [List.length_range] at h1
    cases h
    exact ⟨rfl, by omega⟩
theorem W_range {t : Tt} {b : Sx} {P : Fl → Prop} {E : D → Prop} (I : Nat → En → Prop) {n : Int} {e : En} (h0 : I 0 e)
    (hs : ∀ (i : Nat) e, (i : Int) < n → I i e → W ((t (.int i) e).bind b) (PQ (I (i + 1)) fun s => P (.rt s)) E) (h1 : ∀ e, I n.toNat e → P (.nx e)) : W (kfor t b e (rangeL 0 n)) P E := by
  refine W_for I h0 (fun i d e hd hi => ?_) (fun e he => h1 e (by rw [rangeL_length] at he; simpa using he))
  obtain ⟨rfl, h⟩ := rangeL_get hd
  have e0 : (0 : Int) + i = i := by omega
  rw [e0] at h ⊢
  exact hs i e h hi
theorem W_while {c : Tx} {b : Sx} {P : Fl → Prop} {E : D → Prop} (I : Nat → En → Prop) {n k : Nat} {e : En} (h0 : I k e) (hk : k < n)
    (hs : ∀ k e, I k e → W (c e) (fun g => (g = true → W (b e) (PQ (fun e' => ∃ j, j < k ∧ I j e') fun s => P (.rt s)) E) ∧ (g = false → P (.nx e))) E) : W (whileL c b n e) P E := by
  induction n generalizing k e with
  | zero => omega
  | succ n ih =>
    have st := hs k e h0
    show W ((c e).bind fun k => _) P E
    rw [W_bind]
    refine W_mono st fun g ⟨g1, g2⟩ => ?_
    cases g with
    | false => exact g2 rfl
    | true =>
      show W ((b e).bind fun f => _) P E
      rw [W_bind]
      refine W_mono (g1 rfl) fun f hf => ?_
      cases f with
      | nx e2 =>
        obtain ⟨j, h1, h2⟩ := hf
        exact ih h2 (by omega)
      | rt s => exact hf
/-- one step of a comprehension -/
def kcs2 (s : S) : R (Option D) := .ok (some s.d)
@[simp] theorem kcs2_eq (s : S) : kcs2 s = .ok (some s.d) := rfl
def kcs1 (m : Ex) (e : En) (b : Bool) : R (Option D) := match b with
  | true => (m e).bind kcs2
  | false => .ok none
@[simp] theorem kcs1_t (m : Ex) (e : En) : kcs1 m e true = (m e).bind kcs2 := rfl
@[simp] theorem kcs1_f (m : Ex) (e : En) : kcs1 m e false = .ok none := rfl
def kcs (c : Tx) (m : Ex) (e : En) : R (Option D) := (c e).bind (kcs1 m e)
@[simp] theorem kcs_eq (c : Tx) (m : Ex) (e : En) : kcs c m e = (c e).bind (kcs1 m e) := rfl
theorem compL_map {α : Type} {t : Tt} {c : Tx} {m : Ex} {e : En} {f : α → D} {g : α → Option D} : ∀ xs : List α, (∀ x ∈ xs, (t (f x) e).bind (kcs c m) = .ok (g x)) → compL t c m e (xs.map f) = .ok (xs.filterMap g)
  | [], _ => rfl
  | x :: r, h => by
    have ih := compL_map r fun y hy => h y (List.mem_cons_of_mem _ hy)
    have hx := h x List.mem_cons_self
    show (t (f x) e).bind _ = _
    cases ht : t (f x) e with
    | bad => rw [ht] at hx; cases hx
    | ex d => rw [ht] at hx; cases hx
    | ok e' =>
      rw [ht] at hx
      rw [R.bind_ok] at hx ⊢
      rw [kcs_eq] at hx
      cases hc : c e' with
      | bad => rw [hc] at hx; cases hx
      | ex d => rw [hc] at hx; cases hx
      | ok b =>
        rw [hc] at hx
        rw [R.bind_ok] at hx ⊢
        cases b with
        | false =>
          show compL t c m e (r.map f) = _
          have hx' : R.ok none = R.ok (g x) := hx
          injection hx' with hg
          rw [ih, List.filterMap_cons, ← hg]
        | true =>
          show (m e').bind _ = _
          rw [kcs1_t] at hx
          cases hm : m e' with
          | bad => rw [hm] at hx; cases hx
          | ex d => rw [hm] at hx; cases hx
          | ok s =>
            rw [hm] at hx
            have hx' : R.ok (some s.d) = R.ok (g x) := hx
            injection hx' with hg
            rw [R.bind_ok, ih, R.bind_ok, List.filterMap_cons, ← hg]
theorem W_comp {α : Type} {al vs : List Nat} {t : Tt} {c : Tx} {m : Ex} {e : En} {P : S → Prop} {E : D → Prop} {ds : List D} (xs : List α) (f : α → D) (g : α → Option D) (hd : ds = xs.map f) (hl : xs.length ≤ 65536) (h : ∀ x ∈ xs, (t (f x) (wipeE (freeze al e) vs)).bind (kcs c m) = .ok (g x)) (k : P (.own (xs.filterMap g))) :
    W (kcomp al vs t c m e ds) P E := by
  subst hd
  unfold kcomp
  rw [compL_map xs h]
  show W (if _ then _ else _) P E
  rw [W_ite]
  exact ⟨Nat.le_trans (List.length_filterMap_le _ _) hl, k⟩
/-- [g(x) for x in ..] -/
theorem W_cmap {α : Type} {al vs : List Nat} {t : Tt} {c : Tx} {m : Ex} {e : En} {P : S → Prop} {E : D → Prop} {ds : List D} (xs : List α) (f : α → D) (g : α → D) (hd : ds = xs.map f) (hl : xs.length ≤ 65536) (h : ∀ x ∈ xs, (t (f x) (wipeE (freeze al e) vs)).bind (kcs c m) = .ok (some (g x))) (k : P (.own (xs.map g))) :
    W (kcomp al vs t c m e ds) P E := W_comp xs f (fun x => some (g x)) hd hl h (by
      have e : xs.filterMap (fun x => some (g x)) = xs.map g := by induction xs with
        | nil => rfl
        | cons x r ih => simp
      rw [e]; exact k)
/-- [b(x) for x in ..], [b(x) for x in .. if p(x)] by kinds of values -/
theorem W_cm {α β : Type} {al vs : List Nat} {t : Tt} {c : Tx} {m : Ex} {e : En} {P : S → Prop} {E : D → Prop} {ds : List D} (xs : List α) (f : α → D) (mk : β → D) (b : α → β) (hd : ds = xs.map f) (hl : xs.length ≤ 65536) (h : ∀ x ∈ xs, (t (f x) (wipeE (freeze al e) vs)).bind (kcs c m) = .ok (some (mk (b x)))) (k : P (.own ((xs.map b).map mk))) :
    W (kcomp al vs t c m e ds) P E := W_cmap xs f (fun x => mk (b x)) hd hl h (by rw [List.map_map] at k; exact k)
theorem filterMap_if {α β : Type} (p : α → Bool) (g : α → β) : ∀ xs : List α, xs.filterMap (fun x => if p x = true then some (g x) else none) = (xs.filter p).map g
  | [] => rfl
  | x :: r => by
    rw [List.filterMap_cons, List.filter_cons]
    by_cases hp : p x = true
    · rw [if_pos hp, if_pos hp, filterMap_if p g r]; rfl
    · rw [if_neg hp, if_neg hp, filterMap_if p g r]
theorem W_cf {α β : Type} {al vs : List Nat} {t : Tt} {c : Tx} {m : Ex} {e : En} {P : S → Prop} {E : D → Prop} {ds : List D} (xs : List α) (f : α → D) (mk : β → D) (b : α → β) (p : α → Bool) (hd : ds = xs.map f) (hl : xs.length ≤ 65536) (h : ∀ x ∈ xs, (t (f x) (wipeE (freeze al e) vs)).bind (kcs c m) = .ok (if p x = true then some (mk (b x)) else none)) (k : P (.own (((xs.filter p).map b).map mk))) :
    W (kcomp al vs t c m e ds) P E := W_comp xs f (fun x => if p x = true then some (mk (b x)) else none) hd hl h (by
      rw [filterMap_if p (fun x => mk (b x)), ]
      rw [List.map_map] at k; exact k)
/-- a comprehension over calls of which only promises are known -/
theorem compL_W {α : Type} {t : Tt} {c : Tx} {m : Ex} {e : En} {f : α → D} {E : D → Prop} (A : α → D → Prop) : ∀ xs : List α, (∀ x ∈ xs, W ((t (f x) e).bind (kcs c m)) (fun o => ∃ d, o = some d ∧ A x d) E) →
    W (compL t c m e (xs.map f)) (fun ys => ys.length = xs.length ∧ ∀ (i : Nat) x, xs[i]? = some x → ∃ d, ys[i]? = some d ∧ A x d) E
  | [], _ => ⟨rfl, fun i x h => by simp at h⟩
  | x :: r, h => by
    have ih := compL_W A r fun y hy => h y (List.mem_cons_of_mem _ hy)
    have hx := h x List.mem_cons_self
    show W ((t (f x) e).bind _) _ E
    rw [W_bind] at hx ⊢
    refine W_mono hx fun e' hx => ?_
    rw [kcs_eq, W_bind] at hx
    rw [W_bind]
    refine W_mono hx fun b hx => ?_
    cases b with
    | false =>
      obtain ⟨d, hd, _⟩ := (hx : ∃ d, none = some d ∧ A x d)
      cases hd
    | true =>
      rw [kcs1_t, W_bind] at hx
      show W ((m e').bind _) _ E
      rw [W_bind]
      refine W_mono hx fun s hx => ?_
      obtain ⟨d, hd, ha⟩ := (hx : ∃ d, some s.d = some d ∧ A x d)
      cases hd
      rw [W_bind]
      refine W_mono ih fun ys ⟨h1, h2⟩ => ⟨by simp [h1], fun i y hy => ?_⟩
      cases i with
      | zero =>
        have e : x = y := by simpa using hy
        exact ⟨s.d, rfl, e ▸ ha⟩
      | succ i => exact h2 i y (by simpa using hy)
theorem W_cW {α : Type} {al vs : List Nat} {t : Tt} {c : Tx} {m : Ex} {e : En} {P : S → Prop} {ds : List D} (xs : List α) (f : α → D) (A : α → D → Prop) (hd : ds = xs.map f) (hl : xs.length ≤ 65536) (h : ∀ x ∈ xs, W ((t (f x) (wipeE (freeze al e) vs)).bind (kcs c m)) (fun o => ∃ d, o = some d ∧ A x d) NE)
    (k : ∀ ys : List D, ys.length = xs.length → (∀ (i : Nat) x, xs[i]? = some x → ∃ d, ys[i]? = some d ∧ A x d) → P (.own ys)) : W (kcomp al vs t c m e ds) P NE := by
  subst hd
  obtain ⟨ys, e1, h1, h2⟩ := W_ex' (compL_W (E := NE) A xs h)
  unfold kcomp
  rw [e1]
  show W (if _ then _ else _) P NE
  rw [W_ite]
  exact ⟨by omega, k ys h1 h2⟩
theorem maps_of {β : Type} {mk : β → D} {A : β → Prop} : ∀ ys : List D, (∀ d ∈ ys, ∃ b, d = mk b ∧ A b) → ∃ bs : List β, ys = bs.map mk ∧ bs.length = ys.length ∧ ∀ b ∈ bs, A b
  | [], _ => ⟨[], rfl, rfl, fun b h => by cases h⟩
  | d :: r, h => by
    obtain ⟨b, e, ha⟩ := h d List.mem_cons_self
    obtain ⟨bs, e2, e3, h2⟩ := maps_of r fun y hy => h y (List.mem_cons_of_mem _ hy)
    exact ⟨b :: bs, by rw [e, e2]; rfl, by simp [e3], fun x hx => by
      rcases List.mem_cons.mp hx with e | hx
      · rw [e]; exact ha
      · exact h2 x hx⟩
theorem W_rows {α β : Type} {mk : β → D} {al vs : List Nat} {t : Tt} {c : Tx} {m : Ex} {e : En} {P : S → Prop} {ds : List D} (xs : List α) (f : α → D) (A : β → Prop) (hd : ds = xs.map f) (hl : xs.length ≤ 65536) (h : ∀ x ∈ xs, W ((t (f x) (wipeE (freeze al e) vs)).bind (kcs c m)) (fun o => ∃ b, o = some (mk b) ∧ A b) NE)
    (k : ∀ bs : List β, bs.length = xs.length → (∀ b ∈ bs, A b) → P (.own (bs.map mk))) : W (kcomp al vs t c m e ds) P NE := by
  refine W_cW xs f (fun _ d => ∃ b, d = mk b ∧ A b) hd hl (fun x hx => W_mono (h x hx) fun o ⟨b, e, ha⟩ => ⟨_, e, b, rfl, ha⟩) fun ys h1 h2 => ?_
  obtain ⟨bs, e, e2, h3⟩ := maps_of (mk := mk) (A := A) ys fun d hd => by
    obtain ⟨i, hi, e⟩ := List.mem_iff_getElem.mp hd
    obtain ⟨d', hd', hb⟩ := h2 i _ (List.getElem?_eq_getElem (by omega))
    rw [List.getElem?_eq_getElem hi, e] at hd'
    cases hd'
    exact hb
  rw [e]
  exact k bs (by omega) h3
theorem rangeL_map (n : Int) : rangeL 0 n = (List.range n.toNat).map fun (i : Nat) => D.int (i : Int) := by
  unfold rangeL
  simp
end Tg
namespace Tg
open PySem L2
mutual
/-- data as laws compare it: at most n deep, not too long -/
def D.sm : Nat → D → Bool
  | _, .non => true
  | _, .bl _ => true
  | _, .int _ => true
  | _, .str s => s.all (· < 0x110000)
  | 0, .tup _ => false
  | n + 1, .tup ds => decide (ds.length ≤ 1000000) && D.smL n ds
  | 0, .lst _ => false
  | n + 1, .lst ds => decide (ds.length ≤ 1000000) && D.smL n ds
  | _, .scr _ => false
  | _, .exc _ _ => false
  | _, .jnk => false
  | _, .opq _ => false
def D.smL : Nat → List D → Bool
  | _, [] => true
  | n, d :: r => D.sm n d && D.smL n r
end
theorem smL_mem : ∀ {n : Nat} {ds : List D}, D.smL n ds = true → ∀ d ∈ ds, d.sm n = true
  | n, [], _, d, h => nomatch h
  | n, c :: r, h, d, hd => by
    simp only [D.smL, Bool.and_eq_true] at h
    rcases List.mem_cons.mp hd with e | hd
    · rw [e]; exact h.1
    · exact smL_mem h.2 d hd
theorem smL_of : ∀ {n : Nat} {ds : List D}, (∀ d ∈ ds, d.sm n = true) → D.smL n ds = true
  | n, [], _ => rfl
  | n, c :: r, h => by simp only [D.smL, h c List.mem_cons_self, smL_of fun d hd => h d (List.mem_cons_of_mem _ hd), Bool.and_self]
end Tg
namespace Tg
open PySem L2
/-! == of lists of alike things -/
theorem pyL_map {α : Type} (f : α → D) : ∀ xs : List α, D.pyL (xs.map f) = xs.map fun x => (f x).py
  | [] => rfl
  | x :: r => by
    show (f x).py :: D.pyL (r.map f) = _
    rw [pyL_map f r]
    rfl
theorem eqvAll_map {α : Type} [DecidableEq α] {f : α → D} : ∀ xs ys : List α, (∀ x ∈ xs, ∀ y ∈ ys, PyData.eqv (f x).py (f y).py = decide (x = y)) → PyData.eqvAll (D.pyL (xs.map f)) (D.pyL (ys.map f)) = decide (xs = ys)
  | [], [], _ => by simp [D.pyL, PyData.eqvAll]
  | [], y :: s, _ => by simp [D.pyL, PyData.eqvAll]
  | x :: r, [], _ => by simp [D.pyL, PyData.eqvAll]
  | x :: r, y :: s, h => by
    have ih := eqvAll_map r s fun a ha b hb => h a (List.mem_cons_of_mem _ ha) b (List.mem_cons_of_mem _ hb)
    show PyData.eqvAll ((f x).py :: D.pyL (r.map f)) ((f y).py :: D.pyL (s.map f)) = _
    rw [PyData.eqvAll, ih, h x List.mem_cons_self y List.mem_cons_self, Bool.eq_iff_iff]
    simp
theorem eqv_lmap {α : Type} [DecidableEq α] {f : α → D} {xs ys : List α} (h : ∀ x ∈ xs, ∀ y ∈ ys, PyData.eqv (f x).py (f y).py = decide (x = y)) : PyData.eqv (D.lst (xs.map f)).py (D.lst (ys.map f)).py = decide (xs = ys) := by
  show PyData.eqv (.list (D.pyL (xs.map f))) (.list (D.pyL (ys.map f))) = _
  rw [PyData.eqv, eqvAll_map xs ys h]
theorem eqv_tmap {α : Type} [DecidableEq α] {f : α → D} {xs ys : List α} (h : ∀ x ∈ xs, ∀ y ∈ ys, PyData.eqv (f x).py (f y).py = decide (x = y)) : PyData.eqv (D.tup (xs.map f)).py (D.tup (ys.map f)).py = decide (xs = ys) := by
  show PyData.eqv (.tuple (D.pyL (xs.map f))) (.tuple (D.pyL (ys.map f))) = _
  rw [PyData.eqv, eqvAll_map xs ys h]
theorem shpL_map {α : Type} {f : α → D} {n : Nat} : ∀ xs : List α, (∀ x ∈ xs, (f x).shp n = true) → D.shpL n (xs.map f) = true
  | [], _ => by simp [D.shpL]
  | x :: r, h => by
    rw [List.map_cons, D.shpL, h x List.mem_cons_self, shpL_map r fun y hy => h y (List.mem_cons_of_mem _ hy)]
    rfl
theorem shp_int (n : Nat) (i : Int) : (D.int i).shp n = true := by cases n <;> rfl
theorem shp_bl (n : Nat) (i : Bool) : (D.bl i).shp n = true := by cases n <;> rfl
theorem shp_non (n : Nat) : D.non.shp n = true := by cases n <;> rfl
theorem shp_str (n : Nat) (s : List Nat) : (D.str s).shp n = s.all (· < 0x110000) := by cases n <;> rfl
theorem shp_tup (n : Nat) (ds : List D) : (D.tup ds).shp (n + 1) = D.shpL n ds := rfl
theorem shp_lst (n : Nat) (ds : List D) : (D.lst ds).shp (n + 1) = D.shpL n ds := rfl
theorem shpL_int (n : Nat) (xs : List Int) : D.shpL n (xs.map .int) = true := shpL_map xs fun x _ => shp_int n x
@[simp] theorem oEq_li (a b : List Int) : oEq (.lst (a.map .int)) (.lst (b.map .int)) = .ok (.val (.bl (decide (a = b)))) := by
  unfold oEq
  rw [show D.shp DEP (.lst (a.map .int)) = true from shpL_int _ a, show D.shp DEP (.lst (b.map .int)) = true from shpL_int _ b, eqv_lmap fun x _ y _ => eqv_int x y]
  rfl
@[simp] theorem oNe_li (a b : List Int) : oNe (.lst (a.map .int)) (.lst (b.map .int)) = .ok (.val (.bl (decide (a ≠ b)))) := by
  unfold oNe
  rw [show D.shp DEP (.lst (a.map .int)) = true from shpL_int _ a, show D.shp DEP (.lst (b.map .int)) = true from shpL_int _ b, eqv_lmap fun x _ y _ => eqv_int x y, decide_not]
  rfl
@[simp] theorem oEq_ti (a b : List Int) : oEq (.tup (a.map .int)) (.tup (b.map .int)) = .ok (.val (.bl (decide (a = b)))) := by
  unfold oEq
  rw [show D.shp DEP (.tup (a.map .int)) = true from shpL_int _ a, show D.shp DEP (.tup (b.map .int)) = true from shpL_int _ b, eqv_tmap fun x _ y _ => eqv_int x y]
  rfl
@[simp] theorem oNe_ti (a b : List Int) : oNe (.tup (a.map .int)) (.tup (b.map .int)) = .ok (.val (.bl (decide (a ≠ b)))) := by
  unfold oNe
  rw [show D.shp DEP (.tup (a.map .int)) = true from shpL_int _ a, show D.shp DEP (.tup (b.map .int)) = true from shpL_int _ b, eqv_tmap fun x _ y _ => eqv_int x y, decide_not]
  rfl
/-- texts of signs -/
def Sg (s : List Nat) : Prop := ∀ c ∈ s, c < 0x110000
theorem Sg.all {s : List Nat} (h : Sg s) : s.all (· < 0x110000) = true := List.all_eq_true.mpr fun c hc => decide_eq_true (h c hc)
theorem oEq_s {a b : List Nat} (ha : Sg a) (hb : Sg b) : oEq (.str a) (.str b) = .ok (.val (.bl (decide (a = b)))) := by
  unfold oEq
  rw [shp_str, shp_str, ha.all, hb.all, eqv_str]
  rfl
theorem oNe_s {a b : List Nat} (ha : Sg a) (hb : Sg b) : oNe (.str a) (.str b) = .ok (.val (.bl (decide (a ≠ b)))) := by
  unfold oNe
  rw [shp_str, shp_str, ha.all, hb.all, eqv_str, decide_not]
  rfl
mutual
theorem eqv_self : ∀ (n : Nat) (d : D), d.shp n = true → PyData.eqv d.py d.py = true
  | _, .non, _ => rfl
  | _, .bl b, _ => by rw [eqv_bl]; simp
  | _, .int i, _ => by rw [eqv_int]; simp
  | _, .str s, _ => by rw [eqv_str]; simp
  | 0, .tup ds, h => by simp [D.shp] at h
  | n + 1, .tup ds, h => by
    rw [shp_tup] at h
    show PyData.eqv (.tuple (D.pyL ds)) (.tuple (D.pyL ds)) = _
    rw [PyData.eqv, eqvAll_self n ds h]
  | 0, .lst ds, h => by simp [D.shp] at h
  | n + 1, .lst ds, h => by
    rw [shp_lst] at h
    show PyData.eqv (.list (D.pyL ds)) (.list (D.pyL ds)) = _
    rw [PyData.eqv, eqvAll_self n ds h]
  | n, .scr _, h => by cases n <;> simp [D.shp] at h
  | n, .exc _ _, h => by cases n <;> simp [D.shp] at h
  | n, .jnk, h => by cases n <;> simp [D.shp] at h
  | n, .opq _, h => by cases n <;> simp [D.shp] at h
theorem eqvAll_self : ∀ (n : Nat) (ds : List D), D.shpL n ds = true → PyData.eqvAll (D.pyL ds) (D.pyL ds) = true
  | _, [], _ => rfl
  | n, d :: r, h => by
    rw [D.shpL, Bool.and_eq_true] at h
    show PyData.eqvAll (d.py :: D.pyL r) (d.py :: D.pyL r) = _
    rw [PyData.eqvAll, eqv_self n d h.1, eqvAll_self n r h.2]
    rfl
end
theorem oEq_self {d : D} (h : d.shp DEP = true) : oEq d d = .ok (.val (.bl true)) := by
  unfold oEq
  rw [h, eqv_self DEP d h]
  rfl
theorem oNe_self {d : D} (h : d.shp DEP = true) : oNe d d = .ok (.val (.bl false)) := by
  unfold oNe
  rw [h, eqv_self DEP d h]
  rfl
end Tg

/-! Tg, part 17: loops by what is done so far; in, not in; lists of things. -/
namespace Tg
open PySem L2
/-- a loop over the things of xs, the invariant over those that are done -/
theorem W_forM {α : Type} {t : Tt} {b : Sx} {P : Fl → Prop} {E : D → Prop} {ds : List D} {e : En} (xs : List α) (f : α → D) (hd : ds = xs.map f) (I : List α → En → Prop) (h0 : I [] e)
    (hs : ∀ pre x post e, xs = pre ++ x :: post → I pre e → W ((t (f x) e).bind b) (PQ (I (pre ++ [x])) fun s => P (.rt s)) E) (h1 : ∀ e, I xs e → P (.nx e)) : W (kfor t b e ds) P E := by
  subst hd
  have go : ∀ (post pre : List α) (e : En), xs = pre ++ post → I pre e → W (forL t b (post.map f) e) P E := by
    intro post
    induction post with
    | nil =>
      intro pre e hx hi
      rw [List.append_nil] at hx
      subst hx
      exact h1 e hi
    | cons x post ih =>
      intro pre e hx hi
      have st := hs pre x post e hx hi
      show W ((t (f x) e).bind fun e' => (b e').bind fun f => _) P E
      rw [W_bind] at st ⊢
      refine W_mono st fun e' st' => ?_
      rw [W_bind]
      refine W_mono st' fun g hg => ?_
      cases g with
      | nx e2 => exact ih (pre ++ [x]) e2 (by rw [hx]; simp) hg
      | rt s => exact hg
  exact go xs [] e rfl h0
theorem mem_mid {α : Type} {xs pre post : List α} {x : α} (h : xs = pre ++ x :: post) : x ∈ xs := by rw [h]; simp
/-- the runs whose result is known -/
theorem W_ok_ex {r : R S} {P : S → Prop} (h : W r P NE) : ∃ s, r = .ok s ∧ P s := W_ex' h
theorem any_dint (w : Int) (p : List Int) : ((p.map D.int).any fun z => PyData.eqv z.py (D.int w).py) = decide (w ∈ p) := by
  rw [Bool.eq_iff_iff]
  simp only [List.any_eq_true, List.mem_map, decide_eq_true_eq]
  constructor
  · rintro ⟨_, ⟨x, hm, rfl⟩, q⟩
    rw [eqv_int] at q
    rw [← of_decide_eq_true q]
    exact hm
  · exact fun hm => ⟨_, ⟨w, hm, rfl⟩, by rw [eqv_int]; simp⟩
@[simp] theorem oNotIn_ti (w : Int) (p : List Int) : oNotIn (.int w) (.tup (p.map .int)) = .ok (.val (.bl (!decide (w ∈ p)))) := by
  show (if ((D.int w).shp DEP && D.shpL DEP (p.map .int)) = true then R.ok (S.val (D.bl (!(p.map D.int).any fun z => PyData.eqv z.py (D.int w).py))) else .bad) = _
  rw [shpL_int, shp_int, any_dint]
  rfl
@[simp] theorem oNotIn_li (w : Int) (p : List Int) : oNotIn (.int w) (.lst (p.map .int)) = .ok (.val (.bl (!decide (w ∈ p)))) := by
  show (if ((D.int w).shp DEP && D.shpL DEP (p.map .int)) = true then R.ok (S.val (D.bl (!(p.map D.int).any fun z => PyData.eqv z.py (D.int w).py))) else .bad) = _
  rw [shpL_int, shp_int, any_dint]
  rfl
@[simp] theorem oIn_ti (w : Int) (p : List Int) : oIn (.int w) (.tup (p.map .int)) = .ok (.val (.bl (decide (w ∈ p)))) := by
  show (if ((D.int w).shp DEP && D.shpL DEP (p.map .int)) = true then R.ok (S.val (D.bl ((p.map D.int).any fun z => PyData.eqv z.py (D.int w).py))) else .bad) = _
  rw [shpL_int, shp_int, any_dint]
  rfl
@[simp] theorem oIn_li (w : Int) (p : List Int) : oIn (.int w) (.lst (p.map .int)) = .ok (.val (.bl (decide (w ∈ p)))) := by
  show (if ((D.int w).shp DEP && D.shpL DEP (p.map .int)) = true then R.ok (S.val (D.bl ((p.map D.int).any fun z => PyData.eqv z.py (D.int w).py))) else .bad) = _
  rw [shpL_int, shp_int, any_dint]
  rfl
theorem any_dstr {a : List Nat} {xs : List (List Nat)} : ((xs.map D.str).any fun z => PyData.eqv z.py (D.str a).py) = decide (a ∈ xs) := by
  rw [Bool.eq_iff_iff]
  simp only [List.any_eq_true, List.mem_map, decide_eq_true_eq]
  constructor
  · rintro ⟨_, ⟨x, hm, rfl⟩, q⟩
    rw [eqv_str] at q
    rw [← of_decide_eq_true q]
    exact hm
  · exact fun hm => ⟨_, ⟨a, hm, rfl⟩, by rw [eqv_str]; simp⟩
theorem oIn_ls {a : List Nat} {xs : List (List Nat)} (ha : Sg a) (hx : ∀ x ∈ xs, Sg x) : oIn (.str a) (.lst (xs.map .str)) = .ok (.val (.bl (decide (a ∈ xs)))) := by
  have h1 : D.shpL DEP (xs.map .str) = true := shpL_map xs fun x hm => by rw [shp_str]; exact (hx x hm).all
  have red : ∀ ds : List D, oIn (.str a) (.lst ds) = if (D.str a).shp DEP && D.shpL DEP ds then .ok (.val (.bl (ds.any fun z => PyData.eqv z.py (D.str a).py))) else .bad := fun ds => by
    rcases a with _ | ⟨c, _ | ⟨d, t⟩⟩ <;> rfl
  rw [red, h1, shp_str, ha.all, any_dstr]
  rfl
theorem oNotIn_ls {a : List Nat} {xs : List (List Nat)} (ha : Sg a) (hx : ∀ x ∈ xs, Sg x) : oNotIn (.str a) (.lst (xs.map .str)) = .ok (.val (.bl (!decide (a ∈ xs)))) := by
  have h1 : D.shpL DEP (xs.map .str) = true := shpL_map xs fun x hm => by rw [shp_str]; exact (hx x hm).all
  have red : ∀ ds : List D, oNotIn (.str a) (.lst ds) = if (D.str a).shp DEP && D.shpL DEP ds then .ok (.val (.bl (!ds.any fun z => PyData.eqv z.py (D.str a).py))) else .bad := fun ds => by
    rcases a with _ | ⟨c, _ | ⟨d, t⟩⟩ <;> rfl
  rw [red, h1, shp_str, ha.all, any_dstr]
  rfl
/-- == of a list of ints and [] -/
@[simp] theorem oEq_nil (a : List Int) : oEq (.lst (a.map .int)) (.lst []) = .ok (.val (.bl (decide (a = [])))) := oEq_li a []
@[simp] theorem oNe_nil (a : List Int) : oNe (.lst (a.map .int)) (.lst []) = .ok (.val (.bl (decide (a ≠ [])))) := oNe_li a []
@[simp] theorem oEq_nn : oEq (.lst []) (.lst []) = .ok (.val (.bl true)) := oEq_li [] []
@[simp] theorem oNe_nn : oNe (.lst []) (.lst []) = .ok (.val (.bl false)) := oNe_li [] []
theorem nodup_le {a b : List Int} (h : a.Nodup) (s : ∀ x ∈ a, x ∈ b) : a.length ≤ b.length := h.length_le_of_subset s
/-- == of lists of texts -/
theorem oEq_lss {a b : List (List Nat)} (ha : ∀ x ∈ a, Sg x) (hb : ∀ x ∈ b, Sg x) : oEq (.lst (a.map .str)) (.lst (b.map .str)) = .ok (.val (.bl (decide (a = b)))) := by
  unfold oEq
  rw [show D.shp DEP (.lst (a.map .str)) = true from shpL_map (n := 59) a fun x hm => by rw [shp_str]; exact (ha x hm).all, show D.shp DEP (.lst (b.map .str)) = true from shpL_map (n := 59) b fun x hm => by rw [shp_str]; exact (hb x hm).all, eqv_lmap fun x _ y _ => eqv_str x y]
  rfl
theorem oNe_lss {a b : List (List Nat)} (ha : ∀ x ∈ a, Sg x) (hb : ∀ x ∈ b, Sg x) : oNe (.lst (a.map .str)) (.lst (b.map .str)) = .ok (.val (.bl (decide (a ≠ b)))) := by
  unfold oNe
  rw [show D.shp DEP (.lst (a.map .str)) = true from shpL_map (n := 59) a fun x hm => by rw [shp_str]; exact (ha x hm).all, show D.shp DEP (.lst (b.map .str)) = true from shpL_map (n := 59) b fun x hm => by rw [shp_str]; exact (hb x hm).all, eqv_lmap fun x _ y _ => eqv_str x y, decide_not]
  rfl
/-- lists of lists of ints -/
abbrev lint (f : List Int) : D := .lst (f.map .int)
theorem eqv_lint (x y : List Int) : PyData.eqv (lint x).py (lint y).py = decide (x = y) := eqv_lmap fun a _ b _ => eqv_int a b
theorem shp_lint (n : Nat) (x : List Int) : (lint x).shp (n + 1) = true := shpL_int n x
theorem oEq_lli (a b : List (List Int)) : oEq (.lst (a.map lint)) (.lst (b.map lint)) = .ok (.val (.bl (decide (a = b)))) := by
  unfold oEq
  rw [show D.shp DEP (.lst (a.map lint)) = true from shpL_map (n := 59) a fun x _ => shp_lint 58 x, show D.shp DEP (.lst (b.map lint)) = true from shpL_map (n := 59) b fun x _ => shp_lint 58 x, eqv_lmap fun x _ y _ => eqv_lint x y]
  rfl
/-- a comprehension of things that are all told: what is known of the wished ones -/
theorem atI_int {α : Type} {xs : List α} {i : Int} {x : α} (h : atI xs i = some x) (f : α → D) : atI (xs.map f) i = some (f x) := by rw [atI_map, h]; rfl
theorem emod_lt' {x : Int} {n : Nat} (h : 0 < n) : 0 ≤ x % (n : Int) ∧ x % (n : Int) < n := ⟨Int.emod_nonneg _ (by omega), Int.emod_lt_of_pos _ (by omega)⟩
@[simp] theorem flatL_sign (cs : List Nat) : D.flatL (cs.map fun c => D.str [c]) = true := flatL_map (fun _ => rfl) cs
theorem filter_snoc {α : Type} (p : α → Bool) (l : List α) (x : α) : (l ++ [x]).filter p = l.filter p ++ if p x = true then [x] else [] := by
  rw [List.filter_append, List.filter_cons]
  rfl
end Tg

/-! Tg, part 21: the plain side of dicts, zips of any kinds, chosen things. -/
namespace Tg
open PySem L2
@[simp] theorem dctAt_eq (e : En) (i : Nat) : dctAt e i = match e[i]? with
  | some (some (.dct t kvs)) => if t = 3 then none else some (t, kvs)
  | _ => none := rfl
@[simp] theorem eDGet_eq (i : Nat) (n : Ex) (e : En) : eDGet i n e = match dctAt e i with
  | some (t, kvs) => (n e).bind (kDGet t kvs)
  | _ => .bad := rfl
@[simp] theorem eDIn_eq (neg : Bool) (i : Nat) (n : Ex) (e : En) : eDIn neg i n e = match dctAt e i with
  | some (t, kvs) => (n e).bind (kDIn neg t kvs)
  | _ => .bad := rfl
@[simp] theorem eDLen_eq (i : Nat) (e : En) : eDLen i e = match dctAt e i with
  | some (_, kvs) => .ok (.val (.int kvs.length))
  | _ => .bad := rfl
@[simp] theorem sDNew_eq (t i : Nat) (e : En) : sDNew t i e = .ok (.nx (e.set i (some (.dct t [])))) := rfl
@[simp] theorem sDCst_eq (i : Nat) (kvs : List (List Nat × D)) (e : En) : sDCst i kvs e = .ok (.nx (e.set i (some (.dct 2 (kvI kvs))))) := rfl
@[simp] theorem sDPut_eq (i : Nat) (a n : Ex) (e : En) : sDPut i a n e = match dctAt e i with
  | some (t, kvs) => (a e).bind (kDPut t kvs i n e)
  | _ => .bad := rfl
@[simp] theorem kDPut_eq (t : Nat) (kvs : List (List Int × D)) (i : Nat) (n : Ex) (e : En) (v : S) : kDPut t kvs i n e v = (n e).bind (kDPut2 t kvs i e v) := rfl
def ofO2 (o : Option D) : R S := match o with
  | some d => .ok (.val d)
  | none => .bad
@[simp] theorem ofO2_some (d : D) : ofO2 (some d) = .ok (.val d) := rfl
@[simp] theorem kDGet_int (kvs : List (List Int × D)) (i : Int) : kDGet 0 kvs (.val (.int i)) = ofO2 (lookI kvs [i]) := by
  show (match lookI kvs [i] with | some d => _ | none => _) = _
  cases lookI kvs [i] <;> rfl
@[simp] theorem kDIn_int (kvs : List (List Int × D)) (i : Int) : kDIn false 0 kvs (.val (.int i)) = .ok (.val (.bl (lookI kvs [i]).isSome)) := rfl
@[simp] theorem kDNotIn_int (kvs : List (List Int × D)) (i : Int) : kDIn true 0 kvs (.val (.int i)) = .ok (.val (.bl (!(lookI kvs [i]).isSome))) := rfl
@[simp] theorem kDPut2_int (kvs : List (List Int × D)) (i : Nat) (e : En) (v : S) (j : Int) : kDPut2 0 kvs i e v (.val (.int j)) = if v.d.flat = true ∧ kvs.length ≤ 60000 then .ok (.nx (e.set i (some (.dct 0 (putI kvs [j] v.d))))) else .bad := rfl
@[simp] theorem kDGet_str (kvs : List (List Int × D)) (s : List Nat) : kDGet 2 kvs (.val (.str s)) = ofO2 (lookI kvs (s.map Int.ofNat)) := by
  show (match lookI kvs (s.map Int.ofNat) with | some d => _ | none => _) = _
  cases lookI kvs (s.map Int.ofNat) <;> rfl
theorem kDGet_tup (kvs : List (List Int × D)) (ns : List Int) : kDGet 1 kvs (.val (.tup (ns.map .int))) = ofO2 (lookI kvs ns) := by
  show (match D.ints (ns.map .int) with | some q => (match lookI kvs q with | some d => _ | none => _) | none => _) = _
  rw [ints_map]
  show (match lookI kvs ns with | some d => _ | none => _) = _
  cases lookI kvs ns <;> rfl
theorem kDIn_tup (neg : Bool) (kvs : List (List Int × D)) (ns : List Int) : kDIn neg 1 kvs (.val (.tup (ns.map .int))) = .ok (.val (.bl (if neg then !(lookI kvs ns).isSome else (lookI kvs ns).isSome))) := by
  show (match D.ints (ns.map .int) with | some q => _ | none => _) = _
  rw [ints_map]
theorem kDPut2_tup (kvs : List (List Int × D)) (i : Nat) (e : En) (v : S) (ns : List Int) : kDPut2 1 kvs i e v (.val (.tup (ns.map .int))) = if v.d.flat = true ∧ kvs.length ≤ 60000 then .ok (.nx (e.set i (some (.dct 1 (putI kvs ns v.d))))) else .bad := by
  show (match D.ints (ns.map .int) with | some q => _ | none => _) = _
  rw [ints_map]
theorem lookI_put (kvs : List (List Int × D)) (k : List Int) (d : D) (j : List Int) : lookI (putI kvs k d) j = if j = k then some d else lookI kvs j := by
  have snoc : ∀ kvs : List (List Int × D), (kvs.any fun p => decide (p.1 = k)) = false → lookI (kvs ++ [(k, d)]) j = if j = k then some d else lookI kvs j := by
    intro kvs
    induction kvs with
    | nil =>
      intro _
      by_cases e : j = k
      · subst e; simp [lookI]
      · have e' : ¬ k = j := fun z => e z.symm
        simp [lookI, e, e']
    | cons p r ih =>
      intro h
      rw [List.any_cons, Bool.or_eq_false_iff] at h
      have ih := ih h.2
      have hp := of_decide_eq_false h.1
      by_cases e : p.1 = j
      · have : ¬ j = k := fun z => hp (e.trans z)
        simp [lookI, e, this]
      · have e1 : lookI (p :: r ++ [(k, d)]) j = lookI (r ++ [(k, d)]) j := by simp [lookI, List.find?_cons, e]
        have e2 : lookI (p :: r) j = lookI r j := by simp [lookI, List.find?_cons, e]
        rw [e1, e2, ih]
  have upd : ∀ kvs : List (List Int × D), (kvs.any fun p => decide (p.1 = k)) = true → lookI (kvs.map fun p => if p.1 = k then (p.1, d) else p) j = if j = k then some d else lookI kvs j := by
    intro kvs
    have go : ∀ kvs : List (List Int × D), ¬ j = k → lookI (kvs.map fun p => if p.1 = k then (p.1, d) else p) j = lookI kvs j := by
      intro kvs hj
      induction kvs with
      | nil => rfl
      | cons p r ih =>
        rw [List.map_cons]
        by_cases e : p.1 = k
        · have e2 : ¬ p.1 = j := fun z => hj (z.symm.trans e)
          rw [if_pos e]
          simp only [lookI, List.find?_cons, e2, decide_false] at ih ⊢
          exact ih
        · rw [if_neg e]
          by_cases e2 : p.1 = j
          · simp [lookI, e2]
          · simp only [lookI, List.find?_cons, e2, decide_false] at ih ⊢
            exact ih
    intro h
    by_cases hj : j = k
    · subst hj
      rw [if_pos rfl]
      induction kvs with
      | nil => cases h
      | cons p r ih =>
        rw [List.map_cons]
        by_cases e : p.1 = j
        · rw [if_pos e]
          simp [lookI, e]
        · rw [if_neg e]
          rw [List.any_cons, decide_eq_false e, Bool.false_or] at h
          have := ih h
          simp only [lookI, List.find?_cons, e, decide_false] at this ⊢
          exact this
    · rw [if_neg hj]
      exact go kvs hj
  unfold putI
  by_cases h : (kvs.any fun p => decide (p.1 = k)) = true
  · rw [if_pos h]; exact upd kvs h
  · rw [if_neg h]; exact snoc kvs (Bool.eq_false_iff.mpr h)
theorem putI_new {kvs : List (List Int × D)} {k : List Int} {d : D} (h : lookI kvs k = none) : putI kvs k d = kvs ++ [(k, d)] := by
  unfold putI
  rw [if_neg]
  intro z
  rw [List.any_eq_true] at z
  obtain ⟨p, hp, e⟩ := z
  have : (kvs.find? fun p => decide (p.1 = k)).isSome = true := by
    rw [List.find?_isSome]
    exact ⟨p, hp, e⟩
  unfold lookI at h
  cases hf : kvs.find? fun p => decide (p.1 = k) with
  | none => rw [hf] at this; cases this
  | some q => rw [hf] at h; cases h
@[simp] theorem lookI_nil (k : List Int) : lookI [] k = none := rfl
/-! zip -/
def kzM1 (b : Ex) (e : En) (x : S) : R (List D) := (b e).bind (kzM x)
@[simp] theorem kzM1_eq (b : Ex) (e : En) (x : S) : kzM1 b e x = (b e).bind (kzM x) := rfl
@[simp] theorem aZipM_eq (a b : Ex) (e : En) : aZipM a b e = (a e).bind (kzM1 b e) := rfl
@[simp] theorem seqOf_l (ds : List D) : seqOf (.lst ds) = some ds := rfl
@[simp] theorem seqOf_t (ds : List D) : seqOf (.tup ds) = some ds := rfl
@[simp] theorem seqOf_s (cs : List Nat) : seqOf (.str cs) = some (cs.map fun c => D.str [c]) := rfl
theorem kzM_eq {x y : S} {ds es : List D} (h1 : seqOf x.d = some ds) (h2 : seqOf y.d = some es) : kzM x y = .ok (zipD ds es) := by unfold kzM; rw [h1, h2]
@[simp] theorem kzM_tt (a b : List D) : kzM (.val (.tup a)) (.val (.tup b)) = .ok (zipD a b) := rfl
@[simp] theorem kzM_ts (a : List D) (b : List Nat) : kzM (.val (.tup a)) (.val (.str b)) = .ok (zipD a (b.map fun c => .str [c])) := rfl
@[simp] theorem kzM_ll (a b : List D) : kzM (.val (.lst a)) (.val (.lst b)) = .ok (zipD a b) := rfl
@[simp] theorem kzM_ls (a : List D) (b : List Nat) : kzM (.val (.lst a)) (.val (.str b)) = .ok (zipD a (b.map fun c => .str [c])) := rfl
@[simp] theorem kzM_lt (a b : List D) : kzM (.val (.lst a)) (.val (.tup b)) = .ok (zipD a b) := rfl
@[simp] theorem kzM_tl (a b : List D) : kzM (.val (.tup a)) (.val (.lst b)) = .ok (zipD a b) := rfl
theorem zipD_map {α β : Type} (f : α → D) (g : β → D) : ∀ (xs : List α) (ys : List β), zipD (xs.map f) (ys.map g) = (xs.zip ys).map fun p => .tup [f p.1, g p.2]
  | [], _ => by simp [zipD]
  | _ :: _, [] => by simp [zipD]
  | x :: xs, y :: ys => by simp [zipD, zipD_map f g xs ys]
/-! chosen things -/
@[simp] theorem cNil_eq (e : En) : cNil e = .ok [] := rfl
@[simp] theorem kc2_eq (x : S) (xs : List S) : kc2 x xs = .ok (x :: xs) := rfl
@[simp] theorem kc1_eq (r : AxS) (e : En) (x : S) : kc1 r e x = (r e).bind (kc2 x) := rfl
@[simp] theorem cCons_eq (a : Ex) (r : AxS) (e : En) : cCons a r e = (a e).bind (kc1 r e) := rfl
@[simp] theorem eSel_eq (m : AxS) (n : Ex) (e : En) : eSel m n e = (m e).bind (kSel0 n e) := rfl
@[simp] theorem kSel0_eq (n : Ex) (e : En) (ss : List S) : kSel0 n e ss = if ss.length ≤ 100 then (n e).bind (kSel ss) else .bad := rfl
def ofS (o : Option S) : R S := match o with
  | some s => .ok s
  | none => .bad
@[simp] theorem ofS_some (s : S) : ofS (some s) = .ok s := rfl
@[simp] theorem kSel_int (ss : List S) (i : Int) : kSel ss (.val (.int i)) = ofS (atI ss i) := by
  show (match atI ss i with | some s => _ | none => _) = _
  cases atI ss i <;> rfl
@[simp] theorem eFl_eq (m : Ex) (e : En) : eFl m e = (m e).bind kFl := rfl
@[simp] theorem kFl_eq (s : S) : kFl s = if s.flat = true then .ok s else .bad := rfl
end Tg

/-! Tg, part 23: the plain side of nested clears. -/
namespace Tg
open PySem L2
@[simp] theorem sClearN_eq (al sl : List Nat) (n : Nat) (a : Ex) (e : En) : sClearN al sl n a e = (a e).bind (kClN al sl n e) := rfl
@[simp] theorem kClN_lst (al sl : List Nat) (n : Nat) (e : En) (ds : List D) : kClN al sl n e (.val (.lst ds)) = if e.length ≤ n then .ok (.nx (killE sl (freeze al e))) else .bad := rfl
@[simp] theorem kClN_own (al sl : List Nat) (n : Nat) (e : En) (ds : List D) : kClN al sl n e (.own ds) = if e.length ≤ n then .ok (.nx (killE sl (freeze al e))) else .bad := rfl
@[simp] theorem kClN_jnk (al sl : List Nat) (n : Nat) (e : En) : kClN al sl n e (.val .jnk) = if e.length ≤ n then .ok (.nx (killE sl (freeze al e))) else .bad := rfl
@[simp] theorem killE_nil (e : En) : killE [] e = e := rfl
@[simp] theorem killE_cons (i : Nat) (r : List Nat) (e : En) : killE (i :: r) e = match e[i]? with
  | some (some s) => (killE r e).set i (some s.kill)
  | _ => killE r e := rfl
@[simp] theorem kill_sval (d : D) : (S.val d).kill = .val d.kill := rfl
@[simp] theorem kill_sown (ds : List D) : (S.own ds).kill = .own (D.killL ds) := rfl
@[simp] theorem kill_sdct (t : Nat) (kvs : List (List Int × D)) : (S.dct t kvs).kill = .dct t kvs := rfl
@[simp] theorem kill_non : D.kill .non = .non := by unfold D.kill; rfl
@[simp] theorem kill_bl (b : Bool) : D.kill (.bl b) = .bl b := by unfold D.kill; rfl
@[simp] theorem kill_int (i : Int) : D.kill (.int i) = .int i := by unfold D.kill; rfl
@[simp] theorem kill_str (s : List Nat) : D.kill (.str s) = .str s := by unfold D.kill; rfl
@[simp] theorem kill_scr (ns : List Int) : D.kill (.scr ns) = .scr ns := by unfold D.kill; rfl
@[simp] theorem kill_jnk : D.kill .jnk = .jnk := by unfold D.kill; rfl
@[simp] theorem kill_lst (ds : List D) : D.kill (.lst ds) = .jnk := by unfold D.kill; rfl
@[simp] theorem kill_tup (ds : List D) : D.kill (.tup ds) = .tup (D.killL ds) := by rw [D.kill]
@[simp] theorem kill_exc (c : String) (ds : List D) : D.kill (.exc c ds) = .exc c (D.killL ds) := by rw [D.kill]
@[simp] theorem killL_nil : D.killL [] = [] := by rw [D.killL]
@[simp] theorem killL_cons (d : D) (ds : List D) : D.killL (d :: ds) = d.kill :: D.killL ds := by rw [D.killL]
mutual
theorem kill_flat : ∀ d : D, d.flat = true → d.kill = d
  | .non, _ => kill_non
  | .bl b, _ => kill_bl b
  | .int i, _ => kill_int i
  | .str s, _ => kill_str s
  | .scr ns, _ => kill_scr ns
  | .jnk, h => by simp [D.flat] at h
  | .opq k, _ => by rw [D.kill]
  | .lst ds, h => by simp [D.flat] at h
  | .tup ds, h => by rw [kill_tup, killL_flat ds (by simpa [D.flat] using h)]
  | .exc c fs, h => by rw [kill_exc, killL_flat fs (by simpa [D.flat] using h)]
theorem killL_flat : ∀ ds : List D, D.flatL ds = true → D.killL ds = ds
  | [], _ => killL_nil
  | d :: r, h => by
    have h' : D.flat d = true ∧ D.flatL r = true := by simpa [D.flatL] using h
    rw [killL_cons, kill_flat d h'.1, killL_flat r h'.2]
end
@[simp] theorem killL_int (xs : List Int) : D.killL (xs.map .int) = xs.map .int := killL_flat _ (flatL_map (fun _ => rfl) xs)
@[simp] theorem killL_str (xs : List (List Nat)) : D.killL (xs.map .str) = xs.map .str := killL_flat _ (flatL_map (fun _ => rfl) xs)
@[simp] theorem sForClr_eq (t : Bool) (al sl : List Nat) (n i : Nat) (a : Ex) (e : En) : sForClr t al sl n i a e = (a e).bind (kFC t al sl n i e) := rfl
@[simp] theorem kFC_lst (t : Bool) (al sl : List Nat) (n i : Nat) (e : En) (ds : List D) : kFC t al sl n i e (.val (.lst ds)) = if i < e.length ∧ e.length ≤ n then (if ds.all (clr1 t) = true then .ok (.nx ((killE sl (freeze al e)).set i none)) else .bad) else .bad := rfl
@[simp] theorem kFC_own (t : Bool) (al sl : List Nat) (n i : Nat) (e : En) (ds : List D) : kFC t al sl n i e (.own ds) = if i < e.length ∧ e.length ≤ n then (if ds.all (clr1 t) = true then .ok (.nx ((killE sl (freeze al e)).set i none)) else .bad) else .bad := rfl
@[simp] theorem sForClrT_eq (al sl : List Nat) (n i : Nat) (a : Ex) (e : En) : sForClrT al sl n i a e = (a e).bind (kFCT al sl n i e) := rfl
@[simp] theorem kFCT_lst (al sl : List Nat) (n i : Nat) (e : En) (ds : List D) : kFCT al sl n i e (.val (.lst ds)) = if i < e.length ∧ e.length ≤ n then (if ds.all clr3 = true then .ok (.nx ((killE sl (freeze al e)).set i none)) else .bad) else .bad := rfl
@[simp] theorem kFCT_own (al sl : List Nat) (n i : Nat) (e : En) (ds : List D) : kFCT al sl n i e (.own ds) = if i < e.length ∧ e.length ≤ n then (if ds.all clr3 = true then .ok (.nx ((killE sl (freeze al e)).set i none)) else .bad) else .bad := rfl
theorem clr_lint (t : Bool) (xs : List (List Int)) : (xs.map lint).all (clr1 t) = true := by
  rw [List.all_eq_true]
  intro d hd
  obtain ⟨x, _, rfl⟩ := List.mem_map.mp hd
  show (x.map D.int).all atomB = true
  rw [List.all_eq_true]
  intro d hd
  obtain ⟨y, _, rfl⟩ := List.mem_map.mp hd
  rfl
@[simp] theorem sSetW_eq (i : Nat) (m : Ex) (e : En) : sSetW i m e = (m e).bind (kSW i e) := rfl
@[simp] theorem kSW_eq (i : Nat) (e : En) (s : S) : kSW i e s = if s.flat = true then .ok (.nx (e.set i (some s))) else .ok (.nx (e.set i none)) := rfl
@[simp] theorem sRaiseF_eq (nm : String) (m : Ex) (e : En) : sRaiseF nm m e = (m e).bind fun _ => .ex (.exc nm []) := rfl
def kRG (nm : String) (s : S) : R Fl := if s.d.tf = true then .ex (.exc nm [s.d]) else .bad
@[simp] theorem kRG_eq (nm : String) (s : S) : kRG nm s = if s.d.tf = true then .ex (.exc nm [s.d]) else .bad := rfl
@[simp] theorem tf_int (i : Int) : (D.int i).tf = true := rfl
@[simp] theorem tf_str (i : List Nat) : (D.str i).tf = true := rfl
@[simp] theorem tf_lst (ds : List D) : (D.lst ds).tf = D.tfL ds := by rw [D.tf]
theorem tfL_map {α : Type} {f : α → D} (h : ∀ x, (f x).tf = true) : ∀ xs : List α, D.tfL (xs.map f) = true
  | [] => rfl
  | x :: r => by rw [List.map_cons, D.tfL, h x, tfL_map h r]; rfl
@[simp] theorem tfL_int (xs : List Int) : D.tfL (xs.map .int) = true := tfL_map (fun _ => rfl) xs
@[simp] theorem sRaiseG_eq (nm : String) (m : Ex) (e : En) : sRaiseG nm m e = (m e).bind (kRG nm) := rfl
def kFld (nm : String) (s : S) : R S := match s.d with
  | .exc c [d] => if c = nm then .ok (.val d) else .bad
  | _ => .bad
@[simp] theorem kFld_eq (nm c : String) (d : D) : kFld nm (.val (.exc c [d])) = if c = nm then .ok (.val d) else .bad := rfl
@[simp] theorem eFld_eq (nm : String) (m : Ex) (e : En) : eFld nm m e = (m e).bind (kFld nm) := rfl
def kDS1 (i : Nat) (v : Ex) (e : En) (k : S) : R Fl := (v e).bind (kDS2 i e k)
@[simp] theorem kDS1_eq (i : Nat) (v : Ex) (e : En) (k : S) : kDS1 i v e k = (v e).bind (kDS2 i e k) := rfl
@[simp] theorem sDSet1_eq (i : Nat) (k v : Ex) (e : En) : sDSet1 i k v e = (k e).bind (kDS1 i v e) := rfl
theorem kDS2_tup (i : Nat) (e : En) (ns : List Int) (v : S) : kDS2 i e (.val (.tup (ns.map .int))) v = if v.d.flat = true then .ok (.nx (e.set i (some (.dct 1 [(ns, v.d)])))) else .bad := by
  unfold kDS2
  show (match D.ints (ns.map .int) with | some g => _ | none => _) = _
  rw [ints_map]
end Tg

/-! Tg: the plain side of dicts with nested keys, of sorted rows, of calls that make codes. -/
namespace Tg
open PySem L2
@[simp] theorem nctAt_eq (e : En) (i : Nat) : nctAt e i = match e[i]? with
  | some (some (.dct t kvs)) => if t = 3 then some kvs else none
  | _ => none := rfl
@[simp] theorem sNNew_eq (i : Nat) (e : En) : sNNew i e = .ok (.nx (e.set i (some (.dct 3 [])))) := rfl
def kNG1 (kvs : List (List Int × D)) (v : Ex) (e : En) (k : S) : R S := (v e).bind (kNGetD2 kvs k)
@[simp] theorem kNG1_eq (kvs : List (List Int × D)) (v : Ex) (e : En) (k : S) : kNG1 kvs v e k = (v e).bind (kNGetD2 kvs k) := rfl
@[simp] theorem eNGetD_eq (i : Nat) (n v : Ex) (e : En) : eNGetD i n v e = match nctAt e i with
  | some kvs => (n e).bind (kNG1 kvs v e)
  | none => .bad := rfl
@[simp] theorem eNGet_eq (i : Nat) (n : Ex) (e : En) : eNGet i n e = match nctAt e i with
  | some kvs => (n e).bind (kNGet kvs)
  | none => .bad := rfl
@[simp] theorem eNNotIn_eq (i : Nat) (n : Ex) (e : En) : eNNotIn i n e = match nctAt e i with
  | some kvs => (n e).bind (kNNotIn kvs)
  | none => .bad := rfl
def kNP1 (kvs : List (List Int × D)) (i : Nat) (n : Ex) (e : En) (v : S) : R Fl := (n e).bind (kNPut2 kvs i e v)
@[simp] theorem kNP1_eq (kvs : List (List Int × D)) (i : Nat) (n : Ex) (e : En) (v : S) : kNP1 kvs i n e v = (n e).bind (kNPut2 kvs i e v) := rfl
@[simp] theorem sNPut_eq (i : Nat) (a n : Ex) (e : En) : sNPut i a n e = match nctAt e i with
  | some kvs => (a e).bind (kNP1 kvs i n e)
  | none => .bad := rfl
@[simp] theorem aNKeys_eq (i : Nat) (e : En) : aNKeys i e = match nctAt e i with
  | some kvs => .ok (kvs.map keyN)
  | none => .bad := rfl
@[simp] theorem sSortK_eq (i : Nat) (e : En) : sSortK i e = match e[i]? with
  | some (some (.own ds)) => if ds.all okRow = true then .ok (.rt (.own (sortK ds))) else .bad
  | _ => .bad := rfl
def kCallT (i : Nat) (e : En) (s : S) : R Fl := match s with
  | .own ds => if D.flatL ds = true then .ok (.nx (e.set i (some (.own ds)))) else .bad
  | _ => .bad
@[simp] theorem kCallT_own (i : Nat) (e : En) (ds : List D) : kCallT i e (.own ds) = if D.flatL ds = true then .ok (.nx (e.set i (some (.own ds)))) else .bad := rfl
@[simp] theorem sCallT_eq (i : Nat) (a : Ex) (e : En) : sCallT i a e = (a e).bind (kCallT i e) := rfl
def kLT2 (FL : List D → R S) (mc : Ex) (e : En) (rs : List D) (s2 : S) : R Fl := (FL [.lst rs, s2.d]).bind (kLast3 mc e)
@[simp] theorem kLT2_eq (FL : List D → R S) (mc : Ex) (e : En) (rs : List D) (s2 : S) : kLT2 FL mc e rs s2 = (FL [.lst rs, s2.d]).bind (kLast3 mc e) := rfl
def kLT (md : Ex) (FL : List D → R S) (mc : Ex) (e : En) (s : S) : R Fl := match s with
  | .own rs => if D.flatL rs = true then (md e).bind (kLT2 FL mc e rs) else .bad
  | _ => .bad
@[simp] theorem kLT_own (md : Ex) (FL : List D → R S) (mc : Ex) (e : En) (rs : List D) : kLT md FL mc e (.own rs) = if D.flatL rs = true then (md e).bind (kLT2 FL mc e rs) else .bad := rfl
@[simp] theorem sLastT_eq (a md : Ex) (FL : List D → R S) (mc : Ex) (e : En) : sLastT a md FL mc e = (a e).bind (kLT md FL mc e) := rfl
def kL4 (s4 : S) : R Fl := match s4.d with
  | .bl c => .ok (.rt (.val (.bl c)))
  | _ => .bad
@[simp] theorem kL4_bl (c : Bool) : kL4 (.val (.bl c)) = .ok (.rt (.val (.bl c))) := rfl
@[simp] theorem kLast3_t (mc : Ex) (e : En) : kLast3 mc e (.val (.bl true)) = (mc e).bind kL4 := rfl
@[simp] theorem kLast3_f (mc : Ex) (e : En) : kLast3 mc e (.val (.bl false)) = .ok (.rt (.val (.bl false))) := rfl
/-! keys -/
theorem nkAll_map {α : Type} {f : α → D} {g : α → NestedKey} : ∀ xs : List α, (∀ x ∈ xs, nkOf (f x) = some (g x)) → nkAll (xs.map f) = some (xs.map g)
  | [], _ => by simp [nkAll]
  | x :: r, h => by
    rw [List.map_cons, nkAll, h x List.mem_cons_self, nkAll_map r fun y hy => h y (List.mem_cons_of_mem _ hy)]
    rfl
theorem nkOf_tup {ds : List D} {ks : List NestedKey} (h : nkAll ds = some ks) : nkOf (.tup ds) = some (.tup ks) := by
  rw [nkOf, h]
theorem depthAll_le {α : Type} {g : α → NestedKey} {m : Nat} : ∀ xs : List α, (∀ x ∈ xs, (g x).depth ≤ m) → NestedKey.depthAll (xs.map g) ≤ m
  | [], _ => by rw [List.map_nil, NestedKey.depthAll]; exact Nat.zero_le _
  | x :: r, h => by
    rw [List.map_cons, NestedKey.depthAll]
    exact Nat.max_le.mpr ⟨h x List.mem_cons_self, depthAll_le r fun y hy => h y (List.mem_cons_of_mem _ hy)⟩
def nkl (l : List Int) : NestedKey := .tup (l.map .num)
def nkt (t : List (List Int)) : NestedKey := .tup (t.map nkl)
theorem nkl_inj {a b : List Int} (h : nkl a = nkl b) : a = b := by
  unfold nkl at h
  exact (List.map_inj_right fun x y e => NestedKey.num.inj e).mp (NestedKey.tup.inj h)
theorem nkt_inj {a b : List (List Int)} (h : nkt a = nkt b) : a = b := by
  unfold nkt at h
  exact (List.map_inj_right fun x y e => nkl_inj e).mp (NestedKey.tup.inj h)
def tD (t : List (List Int)) : D := .tup (t.map fun w => D.tup (w.map .int))
theorem flat_tD (t : List (List Int)) : (tD t).flat = true := by
  unfold tD
  rw [flat_tup]
  exact flatL_map (fun w => by simp) t
theorem nkOf_tD (t : List (List Int)) : nkOf (tD t) = some (nkt t) := nkOf_tup (nkAll_map t fun w _ => nkOf_tup (nkAll_map w fun i _ => by rw [nkOf]))
theorem depth_nkt (t : List (List Int)) : (nkt t).depth ≤ 2 := by
  unfold nkt
  rw [NestedKey.depth]
  refine Nat.succ_le_succ (depthAll_le t fun w _ => ?_)
  unfold nkl
  rw [NestedKey.depth]
  refine Nat.succ_le_succ (depthAll_le w fun i _ => ?_)
  rw [NestedKey.depth]
  exact Nat.le_refl _
theorem nKey_tD (t : List (List Int)) : nKey (tD t) = some (nkt t) := by
  have h1 := nkOf_tD t
  have h2 := flat_tD t
  have h3 := depth_nkt t
  unfold tD at h1 h2 ⊢
  unfold nKey
  simp only [h1, h2]
  rw [if_pos ⟨trivial, by omega⟩]
/-- the dict: each tongue with something -/
def dctN (ks : List (List (List Int))) (v : List (List Int) → D) : List (List Int × D) := ks.map fun t => ([], D.tup [tD t, v t])
theorem dctN_congr {ks : List (List (List Int))} {v v' : List (List Int) → D} (h : ∀ t ∈ ks, v t = v' t) : dctN ks v = dctN ks v' := by
  unfold dctN
  exact List.map_congr_left fun t ht => by rw [h t ht]
theorem nkD_at (t : List (List Int)) (d : D) : nkD ([], D.tup [tD t, d]) = some (nkt t) := nkOf_tD t
theorem nLook_dctN (v : List (List Int) → D) (t : List (List Int)) : ∀ ks : List (List (List Int)), nLook (dctN ks v) (nkt t) = if t ∈ ks then some (v t) else none
  | [] => rfl
  | u :: ks => by
    have ih := nLook_dctN v t ks
    unfold nLook dctN at ih ⊢
    rw [List.map_cons, List.find?_cons, nkD_at]
    by_cases e : u = t
    · subst e
      simp [nVal]
    · have e1 : ¬ nkt u = nkt t := fun z => e (nkt_inj z)
      have e2 : ¬ t = u := fun z => e z.symm
      simp only [Option.some.injEq, e1, decide_false, ih, List.mem_cons, e2, false_or]
theorem nPut_dctN (v : List (List Int) → D) (t : List (List Int)) (d : D) (ks : List (List (List Int))) : nPut (dctN ks v) (tD t) d (nkt t) = dctN (if t ∈ ks then ks else ks ++ [t]) fun u => if u = t then d else v u := by
  unfold nPut
  rw [nLook_dctN]
  by_cases h : t ∈ ks
  · rw [if_pos h, if_pos (show (some (v t)).isSome = true from rfl), if_pos h]
    unfold dctN
    rw [List.map_map]
    refine List.map_congr_left fun u _ => ?_
    show (if nkD ([], D.tup [tD u, v u]) = some (nkt t) then nSet d ([], D.tup [tD u, v u]) else _) = _
    rw [nkD_at]
    by_cases e : u = t
    · subst e
      rw [if_pos rfl]
      simp [nSet]
    · rw [if_neg (fun z => e (nkt_inj (Option.some.inj z)))]
      simp only [e, if_false]
  · rw [if_neg h, if_neg (by simp), if_neg h]
    unfold dctN
    rw [List.map_append]
    congr 1
    · exact List.map_congr_left fun u hu => by
        have e : ¬ u = t := fun z => h (by rw [← z]; exact hu)
        simp only [e, if_false]
    · simp
theorem dctN_len (ks : List (List (List Int))) (v : List (List Int) → D) : (dctN ks v).length = ks.length := by
  unfold dctN
  rw [List.length_map]
theorem dctN_keys (ks : List (List (List Int))) (v : List (List Int) → D) : (dctN ks v).map keyN = ks.map tD := by
  unfold dctN
  rw [List.map_map]
  rfl
theorem kNGetD2_tD (ks : List (List (List Int))) (v : List (List Int) → D) (t : List (List Int)) (z : D) (hz : z.flat = true) : kNGetD2 (dctN ks v) (.val (tD t)) (.val z) = .ok (.val (if t ∈ ks then v t else z)) := by
  unfold kNGetD2
  simp only [S.d_val, nKey_tD, hz, nLook_dctN, if_true]
  split <;> rfl
theorem kNGet_tD {ks : List (List (List Int))} (v : List (List Int) → D) {t : List (List Int)} (h : t ∈ ks) : kNGet (dctN ks v) (.val (tD t)) = .ok (.val (v t)) := by
  unfold kNGet
  simp only [S.d_val, nKey_tD, nLook_dctN, if_pos h]
theorem kNNotIn_tD (ks : List (List (List Int))) (v : List (List Int) → D) (t : List (List Int)) : kNNotIn (dctN ks v) (.val (tD t)) = .ok (.val (.bl (!decide (t ∈ ks)))) := by
  unfold kNNotIn
  simp only [S.d_val, nKey_tD, nLook_dctN]
  by_cases h : t ∈ ks <;> simp [h]
theorem kNPut2_tD (ks : List (List (List Int))) (v : List (List Int) → D) (i : Nat) (e : En) (d : D) (t : List (List Int)) (hf : d.flat = true) (hl : ks.length ≤ 60000) : kNPut2 (dctN ks v) i e (.val d) (.val (tD t)) = .ok (.nx (e.set i (some (.dct 3 (dctN (if t ∈ ks then ks else ks ++ [t]) fun u => if u = t then d else v u))))) := by
  unfold kNPut2
  simp only [S.d_val, nKey_tD, nPut_dctN]
  rw [if_pos ⟨hf, by rw [dctN_len]; exact hl⟩]
/-! tuples of ints among tuples of ints -/
theorem eqv_tints (x y : List Int) : PyData.eqv (D.tup (x.map .int)).py (D.tup (y.map .int)).py = decide (x = y) := eqv_tmap fun a _ b _ => eqv_int a b
theorem shp_tints (n : Nat) (x : List Int) : (D.tup (x.map .int)).shp (n + 1) = true := shpL_int n x
theorem any_tints {a : List Int} {xs : List (List Int)} : ((xs.map fun w => D.tup (w.map .int)).any fun z => PyData.eqv z.py (D.tup (a.map .int)).py) = decide (a ∈ xs) := by
  rw [Bool.eq_iff_iff]
  simp only [List.any_eq_true, List.mem_map, decide_eq_true_eq]
  constructor
  · rintro ⟨_, ⟨x, hm, rfl⟩, q⟩
    rw [eqv_tints] at q
    rw [← of_decide_eq_true q]
    exact hm
  · exact fun hm => ⟨_, ⟨a, hm, rfl⟩, by rw [eqv_tints]; simp⟩
theorem oNotIn_tt (a : List Int) (xs : List (List Int)) : oNotIn (.tup (a.map .int)) (.tup (xs.map fun w => D.tup (w.map .int))) = .ok (.val (.bl (!decide (a ∈ xs)))) := by
  have h1 : D.shpL DEP (xs.map fun w => D.tup (w.map .int)) = true := shpL_map xs fun x hm => shp_tints 59 x
  show (if ((D.tup (a.map .int)).shp DEP && D.shpL DEP (xs.map fun w => D.tup (w.map .int))) = true then R.ok (S.val (D.bl (!(xs.map fun w => D.tup (w.map .int)).any fun z => PyData.eqv z.py (D.tup (a.map .int)).py))) else .bad) = _
  rw [h1, show (D.tup (a.map .int)).shp DEP = true from shp_tints 59 a, any_tints]
  rfl
end Tg

namespace Tg
open PySem PySem.Spec PyProof.Rows L2
abbrev topS (i : Nat) : Stmt := PySem.Challenge.pw_tonguerank_k92_whole_every_ranking.main.body.getD i (.Pass ⟨0, 0, 0, 0⟩)
/-! _law_cell_at -/
abbrev st__law_cell_at : Stmt := topS 19
def body__law_cell_at : Sx := (sSeq (sIf (tVal (eOp2 oLt (eVar 1) (eOp1 oLen (eVar 0)))) (sRet (eOp2 oItem (eVar 0) (eVar 1))) sNop)
  (sRet (eInt 0)))
def F__law_cell_at : List D → R S := runB 2 body__law_cell_at
theorem sc__law_cell_at : FnScope ["_law_script", "_law_k"] ["_law_script", "_law_k"] (defScope st__law_cell_at) := ⟨rfl, rfl, rfl, by decide +kernel, rfl, by decide +kernel, by decide +kernel⟩
theorem ok__law_cell_at {P : Program} {w : World} {K : PySem.W.Frag} {mg : Str → Option Value} {base : Heap} {f : Addr} {fd : FuncData} (h : Has K mg "_law_cell_at" st__law_cell_at ["_law_script", "_law_k"] f fd) (z_len : mg "len" = none) : Cal P w K mg base (XR K) 1 "_law_cell_at" F__law_cell_at 2 := by
  refine def_calG (N := ["_law_script", "_law_k"]) (fun i => [0, 0].getD i 0) false h sc__law_cell_at rfl rfl fun cdv A outer s H E Z0 hr => ?_
  have hu := Hu hr
  exact (b_cons (s_if (t_lt hu (x_var 1) (x_len z_len (x_var 0))) (b_one (s_ret (x_item (x_var 0) (x_var 1)))) b_nil)
  (b_one (s_ret x_int)))
/-! _law_orders -/
abbrev st__law_orders : Stmt := topS 30
def body__law_orders : Sx := (sSeq (sSet [] 1 (eInt 1))
  (sSeq (sFor [] (aRange (eInt 2) (eOp2 oAdd (eVar 0) (eInt 1))) (gName 2) (sSet [1, 2] 1 (eOp2 oMul (eVar 1) (eVar 2))))
  (sRetV 1)))
def F__law_orders : List D → R S := runB 3 body__law_orders
theorem sc__law_orders : FnScope ["_law_many", "_law_found", "_law_k"] ["_law_many"] (defScope st__law_orders) := ⟨rfl, rfl, rfl, by decide +kernel, rfl, by decide +kernel, by decide +kernel⟩
theorem ok__law_orders {P : Program} {w : World} {K : PySem.W.Frag} {mg : Str → Option Value} {base : Heap} {f : Addr} {fd : FuncData} (h : Has K mg "_law_orders" st__law_orders ["_law_many"] f fd) (z_range : mg "range" = none) : CalF P w K mg base (XR K) 1 "_law_orders" F__law_orders 1 := by
  refine def_calG (N := ["_law_many", "_law_found", "_law_k"]) (fun i => [0, 1, 1].getD i 0) true h sc__law_orders rfl rfl fun cdv A outer s H E Z0 hr => ?_
  have hu := Hu hr
  exact (b_cons (s_set 1 sc__law_orders.nd x_int)
  (b_cons (s_for 1 (passes_of rfl) rfl (i_range2 z_range x_int (x_add (x_var 0) x_int)) (g_name sc__law_orders.nd) (b_one (s_set 1 sc__law_orders.nd (x_mul (x_var 1) (x_var 2)))))
  (b_one (s_retV 1))))
/-! _law_mixed -/
abbrev st__law_mixed : Stmt := topS 20
def body__law_mixed : Sx := (sSeq (sSet [] 2 (eOp2 oMod (eOp2 oAdd (eOp2 oAdd (eOp2 oMul (eOp2 oMod (eVar 0) (eInt 2147483629)) (eInt 16807)) (eOp2 oMul (eInt 69621) (eVar 1))) (eInt 11)) (eInt 2147483629)))
  (sSeq (sSet [] 2 (eOp2 oMod (eOp2 oAdd (eOp2 oAdd (eOp2 oMul (eVar 2) (eVar 2)) (eOp2 oMul (eInt 48271) (eVar 1))) (eInt 7)) (eInt 2147483629)))
  (sRet (eOp2 oMod (eOp2 oAdd (eOp2 oMul (eVar 2) (eVar 2)) (eInt 69621)) (eInt 2147483587)))))
def F__law_mixed : List D → R S := runB 3 body__law_mixed
theorem sc__law_mixed : FnScope ["_law_cell", "_law_place", "_law_number"] ["_law_cell", "_law_place"] (defScope st__law_mixed) := ⟨rfl, rfl, rfl, by decide +kernel, rfl, by decide +kernel, by decide +kernel⟩
theorem ok__law_mixed {P : Program} {w : World} {K : PySem.W.Frag} {mg : Str → Option Value} {base : Heap} {f : Addr} {fd : FuncData} (h : Has K mg "_law_mixed" st__law_mixed ["_law_cell", "_law_place"] f fd) : CalF P w K mg base (XR K) 1 "_law_mixed" F__law_mixed 2 := by
  refine def_calG (N := ["_law_cell", "_law_place", "_law_number"]) (fun i => [0, 0, 1].getD i 0) true h sc__law_mixed rfl rfl fun cdv A outer s H E Z0 hr => ?_
  have hu := Hu hr
  exact (b_cons (s_set 2 sc__law_mixed.nd (x_mod (x_add (x_add (x_mul (x_mod (x_var 0) x_int) x_int) (x_mul x_int (x_var 1))) x_int) x_int))
  (b_cons (s_set 2 sc__law_mixed.nd (x_mod (x_add (x_add (x_mul (x_var 2) (x_var 2)) (x_mul x_int (x_var 1))) x_int) x_int))
  (b_one (s_ret (x_mod (x_add (x_mul (x_var 2) (x_var 2)) x_int) x_int)))))
/-! _law_order -/
abbrev st__law_order : Stmt := topS 21
def body__law_order : Sx := (sSeq (sSet [] 2 (eRg1 mkO (eVar 1)))
  (sSeq (sSet [] 3 (eLst aNil))
  (sSeq (sFor [] (aRange1 (eVar 1)) (gName 4) (sSeq (sAppPop 3 2 (eOp2 oMod (eVar 0) (eOp1 oLen (eVar 2))))
  (sSet [] 0 (eOp2 oFdiv (eVar 0) (eInt 6)))))
  (sRet (eOp1 oTuple (eVar 3))))))
def F__law_order : List D → R S := runB 5 body__law_order
theorem sc__law_order : FnScope ["_law_number", "_law_many", "_law_left", "_law_found", "_law_k"] ["_law_number", "_law_many"] (defScope st__law_order) := ⟨rfl, rfl, rfl, by decide +kernel, rfl, by decide +kernel, by decide +kernel⟩
theorem ok__law_order {P : Program} {w : World} {K : PySem.W.Frag} {mg : Str → Option Value} {base : Heap} {f : Addr} {fd : FuncData} (h : Has K mg "_law_order" st__law_order ["_law_number", "_law_many"] f fd) (z_len : mg "len" = none) (z_list : mg "list" = none) (z_range : mg "range" = none) (z_tuple : mg "tuple" = none) : CalF P w K mg base (XR K) 1 "_law_order" F__law_order 2 := by
  refine def_calG (N := ["_law_number", "_law_many", "_law_left", "_law_found", "_law_k"]) (fun i => [0, 0, 1, 1, 2].getD i 0) true h sc__law_order rfl rfl fun cdv A outer s H E Z0 hr => ?_
  have hu := Hu hr
  exact (b_cons (s_set 2 sc__law_order.nd (x_listRg1 rfl z_list z_range (x_var 1)))
  (b_cons (s_set 3 sc__law_order.nd (x_lst a_nil aLen_nil))
  (b_cons (s_for 2 (passes_of rfl) rfl (i_range1 z_range (x_var 1)) (g_name sc__law_order.nd) (b_cons (s_appPop 3 2 (x_mod (x_var 0) (x_len z_len (x_var 2))))
  (b_one (s_set 0 sc__law_order.nd (x_fdiv (x_var 0) x_int)))))
  (b_one (s_ret (x_tuple z_tuple (x_var 3)))))))
/-! _law_ranking -/
abbrev st__law_ranking : Stmt := topS 22
def body__law_ranking : Sx := (sSeq (sIf (tVal (eOp2 oEq (eOp2 oMod (eVar 0) (eInt 2)) (eInt 1))) (sRet (eCall F__law_order (aCons (eOp2 oFdiv (eVar 0) (eInt 2)) (aCons (eVar 1) aNil)))) sNop)
  (sRet (eCall F__law_order (aCons (eCall F__law_mixed (aCons (eVar 0) (aCons (eInt 3) aNil))) (aCons (eVar 1) aNil)))))
def F__law_ranking : List D → R S := runB 2 body__law_ranking
theorem sc__law_ranking : FnScope ["_law_cell", "_law_many"] ["_law_cell", "_law_many"] (defScope st__law_ranking) := ⟨rfl, rfl, rfl, by decide +kernel, rfl, by decide +kernel, by decide +kernel⟩
theorem ok__law_ranking {P : Program} {w : World} {K : PySem.W.Frag} {mg : Str → Option Value} {base : Heap} {f : Addr} {fd : FuncData} (h : Has K mg "_law_ranking" st__law_ranking ["_law_cell", "_law_many"] f fd) (C__law_mixed : CalF P w K mg base (XR K) 1 "_law_mixed" F__law_mixed 2) (C__law_order : CalF P w K mg base (XR K) 1 "_law_order" F__law_order 2) : CalF P w K mg base (XR K) 2 "_law_ranking" F__law_ranking 2 := by
  refine def_calG (N := ["_law_cell", "_law_many"]) (fun i => [0, 0].getD i 0) true h sc__law_ranking rfl rfl fun cdv A outer s H E Z0 hr => ?_
  have hu := Hu hr
  exact (b_cons (s_if (t_eq hu (x_mod (x_var 0) x_int) x_int) (b_one (s_ret (x_calF C__law_order hr (by decide) (takes_of rfl rfl rfl rfl) (fun _ _ _ _ _ z => z) (a_cons (x_fdiv (x_var 0) x_int) (a_cons (x_var 1) a_nil)) (aLen_cons (aLen_cons aLen_nil))))) b_nil)
  (b_one (s_ret (x_calF C__law_order hr (by decide) (takes_of rfl rfl rfl rfl) (fun _ _ _ _ _ z => z) (a_cons (x_calF C__law_mixed hr (by decide) (takes_of rfl rfl rfl rfl) (fun _ _ _ _ _ z => z) (a_cons (x_var 0) (a_cons x_int a_nil)) (aLen_cons (aLen_cons aLen_nil))) (a_cons (x_var 1) a_nil)) (aLen_cons (aLen_cons aLen_nil))))))
/-! _law_row_of -/
abbrev st__law_row_of : Stmt := topS 27
def body__law_row_of : Sx := (sRet (eM D.isS oJoin (eStr []) (eComp [0, 1] [2, 3] (aZipM (eVar 0) (eVar 1)) (gTup 2 (gCons (gName 2) (gCons (gName 3) gNil))) tTrue (eOp2 oItem (eStr [87, 101, 76]) (eOp2 oSub (eOp2 oAdd (eInt 1) (eOp1 oInt (eOp2 oGt (eVar 2) (eVar 3)))) (eOp1 oInt (eOp2 oLt (eVar 2) (eVar 3))))))))
def F__law_row_of : List D → R S := runB 4 body__law_row_of
theorem sc__law_row_of : FnScope ["_law_one", "_law_two", "_law_here", "_law_there"] ["_law_one", "_law_two"] (defScope st__law_row_of) := ⟨rfl, rfl, rfl, by decide +kernel, rfl, by decide +kernel, by decide +kernel⟩
theorem ok__law_row_of {P : Program} {w : World} {K : PySem.W.Frag} {mg : Str → Option Value} {base : Heap} {f : Addr} {fd : FuncData} (h : Has K mg "_law_row_of" st__law_row_of ["_law_one", "_law_two"] f fd) (z_int : mg "int" = none) (z_zip : mg "zip" = none) : CalF P w K mg base (XR K) 1 "_law_row_of" F__law_row_of 2 := by
  refine def_calG (N := ["_law_one", "_law_two", "_law_here", "_law_there"]) (fun i => [0, 0, 0, 0].getD i 0) true h sc__law_row_of rfl rfl fun cdv A outer s H E Z0 hr => ?_
  have hu := Hu hr
  exact (b_one (s_ret (x_join (x_str []) (x_compF 0 (k_tup (ks_cons (k_name 2) (ks_cons (k_name 3) ks_nil))) rfl sc__law_row_of.nd (i_zipM z_zip (x_var 0) (x_var 1)) (blkOk_by (own := [("_law_here", 2), ("_law_there", 3)]) rfl) (fun _ _ _ _ _ => (g_tup rfl (gs_cons (g_name sc__law_row_of.nd) (gs_cons (g_name sc__law_row_of.nd) gs_nil)))) (fun _ _ _ _ _ => ts_nil) (fun _ _ _ _ _ => (x_item (x_str [87, 101, 76]) (x_sub (x_add x_int (x_toInt z_int (x_gt (x_var 2) (x_var 3)))) (x_toInt z_int (x_lt hu (x_var 2) (x_var 3))))))))))
/-! _law_rows_of -/
abbrev st__law_rows_of : Stmt := topS 29
def body__law_rows_of : Sx := (sSeq (sSet [] 2 (eLst aNil))
  (sSeq (sFor [0, 1] (aZipM (eVar 0) (eVar 1)) (gTup 2 (gCons (gName 3) (gCons (gName 4) gNil))) (sSet [2] 2 (eOp2 oAdd (eVar 2) (eComp [4] [5] (aIter (eVar 4)) (gName 5) tTrue (eCall F__law_row_of (aCons (eOp2 oItem (eVar 4) (eOp2 oItem (eVar 3) (eInt 0))) (aCons (eVar 5) aNil)))))))
  (sRetV 2)))
def F__law_rows_of : List D → R S := runB 6 body__law_rows_of
theorem sc__law_rows_of : FnScope ["_law_some", "_law_words", "_law_found", "_law_places", "_law_word_here", "_law_other"] ["_law_some", "_law_words"] (defScope st__law_rows_of) := ⟨rfl, rfl, rfl, by decide +kernel, rfl, by decide +kernel, by decide +kernel⟩
theorem ok__law_rows_of {P : Program} {w : World} {K : PySem.W.Frag} {mg : Str → Option Value} {base : Heap} {f : Addr} {fd : FuncData} (h : Has K mg "_law_rows_of" st__law_rows_of ["_law_some", "_law_words"] f fd) (C__law_row_of : CalF P w K mg base (XR K) 1 "_law_row_of" F__law_row_of 2) (z_zip : mg "zip" = none) : CalF P w K mg base (XR K) 2 "_law_rows_of" F__law_rows_of 2 := by
  refine def_calG (N := ["_law_some", "_law_words", "_law_found", "_law_places", "_law_word_here", "_law_other"]) (fun i => [0, 0, 1, 0, 0, 0].getD i 0) true h sc__law_rows_of rfl rfl fun cdv A outer s H E Z0 hr => ?_
  have hu := Hu hr
  exact (b_cons (s_set 2 sc__law_rows_of.nd (x_lst a_nil aLen_nil))
  (b_cons (s_for 0 (passes_of rfl) rfl (i_zipM z_zip (x_var 0) (x_var 1)) (g_tup rfl (gs_cons (g_name sc__law_rows_of.nd) (gs_cons (g_name sc__law_rows_of.nd) gs_nil))) (b_one (s_set 2 sc__law_rows_of.nd (x_add (x_var 2) (x_compF 0 (k_name 5) rfl sc__law_rows_of.nd (i_seq (x_var 4)) (blkOk_by (own := [("_law_other", 5)]) rfl) (fun _ _ _ _ _ => (g_name sc__law_rows_of.nd)) (fun _ _ _ _ _ => ts_nil) (fun _ _ _ _ _ => (x_calF C__law_row_of hr (by decide) takes0 (fun _ _ _ _ _ _ => trivial) (a_cons (x_item (x_var 4) (x_item (x_var 3) x_int)) (a_cons (x_var 5) a_nil)) (aLen_cons (aLen_cons aLen_nil)))))))))
  (b_one (s_retV 2))))
/-! _law_beats -/
abbrev st__law_beats : Stmt := topS 25
def body__law_beats : Sx := (sSeq (sFor [0] (aIter (eVar 0)) (gName 3) (sIf (tVal (eOp2 oNe (eOp2 oItem (eVar 1) (eVar 3)) (eOp2 oItem (eVar 2) (eVar 3)))) (sRet (eOp2 oLt (eOp2 oItem (eVar 1) (eVar 3)) (eOp2 oItem (eVar 2) (eVar 3)))) sNop))
  (sRet (eBl false)))
def F__law_beats : List D → R S := runB 4 body__law_beats
theorem sc__law_beats : FnScope ["_law_ranking_here", "_law_one", "_law_two", "_law_wish"] ["_law_ranking_here", "_law_one", "_law_two"] (defScope st__law_beats) := ⟨rfl, rfl, rfl, by decide +kernel, rfl, by decide +kernel, by decide +kernel⟩
theorem ok__law_beats {P : Program} {w : World} {K : PySem.W.Frag} {mg : Str → Option Value} {base : Heap} {f : Addr} {fd : FuncData} (h : Has K mg "_law_beats" st__law_beats ["_law_ranking_here", "_law_one", "_law_two"] f fd) : CalF P w K mg base (XR K) 1 "_law_beats" F__law_beats 3 := by
  refine def_calG (N := ["_law_ranking_here", "_law_one", "_law_two", "_law_wish"]) (fun i => [0, 0, 0, 0].getD i 0) true h sc__law_beats rfl rfl fun cdv A outer s H E Z0 hr => ?_
  have hu := Hu hr
  exact (b_cons (s_for 0 (passes_of rfl) rfl (i_seq (x_var 0)) (g_name sc__law_beats.nd) (b_one (s_if (t_ne hu (x_item (x_var 1) (x_var 3)) (x_item (x_var 2) (x_var 3))) (b_one (s_ret (x_lt hu (x_item (x_var 1) (x_var 3)) (x_item (x_var 2) (x_var 3))))) b_nil)))
  (b_one (s_ret x_bl)))
/-! _law_best -/
abbrev st__law_best : Stmt := topS 26
def body__law_best : Sx := (sSeq (sSet [] 2 (eLst aNil))
  (sSeq (sFor [] (aRange1 (eOp1 oLen (eVar 1))) (gName 3) (sIf (tVal (eOp2 oEq (eOp1 oLen (eComp [1] [4] (aIter (eVar 1)) (gName 4) (tVal (eCall F__law_beats (aCons (eVar 0) (aCons (eVar 4) (aCons (eOp2 oItem (eVar 1) (eVar 3)) aNil))))) (eVar 4))) (eInt 0))) (sOwn [3] 2 fAppend (eVar 3)) sNop))
  (sRetV 2)))
def F__law_best : List D → R S := runB 5 body__law_best
theorem sc__law_best : FnScope ["_law_ranking_here", "_law_word_here", "_law_found", "_law_k", "_law_other"] ["_law_ranking_here", "_law_word_here"] (defScope st__law_best) := ⟨rfl, rfl, rfl, by decide +kernel, rfl, by decide +kernel, by decide +kernel⟩
theorem ok__law_best {P : Program} {w : World} {K : PySem.W.Frag} {mg : Str → Option Value} {base : Heap} {f : Addr} {fd : FuncData} (h : Has K mg "_law_best" st__law_best ["_law_ranking_here", "_law_word_here"] f fd) (C__law_beats : CalF P w K mg base (XR K) 1 "_law_beats" F__law_beats 3) (z_len : mg "len" = none) (z_range : mg "range" = none) : CalF P w K mg base (XR K) 2 "_law_best" F__law_best 2 := by
  refine def_calG (N := ["_law_ranking_here", "_law_word_here", "_law_found", "_law_k", "_law_other"]) (fun i => [0, 0, 1, 1, 0].getD i 0) true h sc__law_best rfl rfl fun cdv A outer s H E Z0 hr => ?_
  have hu := Hu hr
  exact (b_cons (s_set 2 sc__law_best.nd (x_lst a_nil aLen_nil))
  (b_cons (s_for 1 (passes_of rfl) rfl (i_range1 z_range (x_len z_len (x_var 1))) (g_name sc__law_best.nd) (b_one (s_if (t_eq hu (x_len z_len (x_comp 0 (k_name 4) rfl sc__law_best.nd (i_seq (x_var 1)) (blkOk_by (own := [("_law_other", 4)]) rfl) (fun _ _ _ _ _ => (g_name sc__law_best.nd)) (fun _ _ _ _ _ => (ts_one (t_val (x_calF C__law_beats hr (by decide) takes0 (fun _ _ _ _ _ _ => trivial) (a_cons (x_var 0) (a_cons (x_var 4) (a_cons (x_item (x_var 1) (x_var 3)) a_nil))) (aLen_cons (aLen_cons (aLen_cons aLen_nil))))))) (fun _ _ _ _ _ => (x_var 4)))) x_int) (b_one (s_append 2 (x_var 3))) b_nil)))
  (b_one (s_retV 2))))
/-! _law_tongue -/
abbrev st__law_tongue : Stmt := topS 28
def body__law_tongue : Sx := (sRet (eOp1 oTuple (eComp [1] [2] (aIter (eVar 1)) (gName 2) tTrue (eOp1 oTuple (eCall F__law_best (aCons (eVar 0) (aCons (eVar 2) aNil)))))))
def F__law_tongue : List D → R S := runB 3 body__law_tongue
theorem sc__law_tongue : FnScope ["_law_ranking_here", "_law_words", "_law_word_here"] ["_law_ranking_here", "_law_words"] (defScope st__law_tongue) := ⟨rfl, rfl, rfl, by decide +kernel, rfl, by decide +kernel, by decide +kernel⟩
theorem ok__law_tongue {P : Program} {w : World} {K : PySem.W.Frag} {mg : Str → Option Value} {base : Heap} {f : Addr} {fd : FuncData} (h : Has K mg "_law_tongue" st__law_tongue ["_law_ranking_here", "_law_words"] f fd) (C__law_best : CalF P w K mg base (XR K) 2 "_law_best" F__law_best 2) (z_tuple : mg "tuple" = none) : CalF P w K mg base (XR K) 3 "_law_tongue" F__law_tongue 2 := by
  refine def_calG (N := ["_law_ranking_here", "_law_words", "_law_word_here"]) (fun i => [0, 0, 0].getD i 0) true h sc__law_tongue rfl rfl fun cdv A outer s H E Z0 hr => ?_
  have hu := Hu hr
  exact (b_one (s_ret (x_tuple z_tuple (x_compF 0 (k_name 2) rfl sc__law_tongue.nd (i_seq (x_var 1)) (blkOk_by (own := [("_law_word_here", 2)]) rfl) (fun _ _ _ _ _ => (g_name sc__law_tongue.nd)) (fun _ _ _ _ _ => ts_nil) (fun _ _ _ _ _ => (x_tuple z_tuple (x_calF C__law_best hr (by decide) takes0 (fun _ _ _ _ _ _ => trivial) (a_cons (x_var 0) (a_cons (x_var 2) a_nil)) (aLen_cons (aLen_cons aLen_nil)))))))))
/-! _law_marks -/
abbrev st__law_marks : Stmt := topS 23
def body__law_marks : Sx := (sSeq (sSet [] 4 (eOp2 oFdiv (eVar 0) (eInt 4)))
  (sSeq (sSet [] 5 (eLst aNil))
  (sSeq (sFor [] (aRange1 (eVar 2)) (gName 6) (sIf (tVal (eOp2 oLt (eOp2 oMod (eVar 0) (eInt 4)) (eInt 2))) (sSeq (sOwn [] 5 fAppend (eOp2 oMod (eVar 4) (eVar 3)))
  (sSet [] 4 (eOp2 oFdiv (eVar 4) (eVar 3)))) (sOwn [] 5 fAppend (eOp2 oMod (eCall F__law_mixed (aCons (eVar 0) (aCons (eOp2 oAdd (eOp2 oMul (eInt 10) (eVar 1)) (eVar 6)) aNil))) (eVar 3)))))
  (sRet (eOp1 oTuple (eVar 5))))))
def F__law_marks : List D → R S := runB 7 body__law_marks
theorem sc__law_marks : FnScope ["_law_cell", "_law_place", "_law_many", "_law_size", "_law_number", "_law_found", "_law_k"] ["_law_cell", "_law_place", "_law_many", "_law_size"] (defScope st__law_marks) := ⟨rfl, rfl, rfl, by decide +kernel, rfl, by decide +kernel, by decide +kernel⟩
theorem ok__law_marks {P : Program} {w : World} {K : PySem.W.Frag} {mg : Str → Option Value} {base : Heap} {f : Addr} {fd : FuncData} (h : Has K mg "_law_marks" st__law_marks ["_law_cell", "_law_place", "_law_many", "_law_size"] f fd) (C__law_mixed : CalF P w K mg base (XR K) 1 "_law_mixed" F__law_mixed 2) (z_range : mg "range" = none) (z_tuple : mg "tuple" = none) : CalF P w K mg base (XR K) 2 "_law_marks" F__law_marks 4 := by
  refine def_calG (N := ["_law_cell", "_law_place", "_law_many", "_law_size", "_law_number", "_law_found", "_law_k"]) (fun i => [0, 0, 0, 0, 1, 2, 3].getD i 0) true h sc__law_marks rfl rfl fun cdv A outer s H E Z0 hr => ?_
  have hu := Hu hr
  exact (b_cons (s_set 4 sc__law_marks.nd (x_fdiv (x_var 0) x_int))
  (b_cons (s_set 5 sc__law_marks.nd (x_lst a_nil aLen_nil))
  (b_cons (s_for 3 (passes_of rfl) rfl (i_range1 z_range (x_var 2)) (g_name sc__law_marks.nd) (b_one (s_if (t_lt hu (x_mod (x_var 0) x_int) x_int) (b_cons (s_append 5 (x_mod (x_var 4) (x_var 3)))
  (b_one (s_set 4 sc__law_marks.nd (x_fdiv (x_var 4) (x_var 3))))) (b_one (s_append 5 (x_mod (x_calF C__law_mixed hr (by decide) (takes_of rfl rfl rfl rfl) (fun _ _ _ _ _ z => z) (a_cons (x_var 0) (a_cons (x_add (x_mul x_int (x_var 1)) (x_var 6)) a_nil)) (aLen_cons (aLen_cons aLen_nil))) (x_var 3)))))))
  (b_one (s_ret (x_tuple z_tuple (x_var 5)))))))
/-! _law_word -/
abbrev st__law_word : Stmt := topS 24
def body__law_word : Sx := (sSeq (sSet [0, 1] 4 (eCall F__law_cell_at (aCons (eVar 0) (aCons (eVar 1) aNil))))
  (sSeq (sSet [] 5 (eOp2 oItem (eLst (aCons (eInt 2) (aCons (eInt 3) (aCons (eInt 5) (aCons (eOp2 oPow (eInt 10) (eInt 39)) aNil))))) (eOp2 oMod (eVar 4) (eInt 4))))
  (sSeq (sSet [] 6 (eLst aNil))
  (sSeq (sFor [] (aRange1 (eOp2 oAdd (eInt 1) (eOp2 oMod (eOp2 oFdiv (eVar 4) (eInt 4)) (eVar 2)))) (gName 7) (sSeq (sSet [0, 1, 7] 8 (eCall F__law_cell_at (aCons (eVar 0) (aCons (eOp2 oAdd (eOp2 oAdd (eVar 1) (eInt 1)) (eVar 7)) aNil))))
  (sIf (tAnd (tVal (eOp2 oEq (eOp2 oMod (eVar 8) (eInt 5)) (eInt 1))) (tVal (eOp2 oGt (eVar 7) (eInt 0)))) (sOwn [6] 6 fAppend (eOp2 oItem (eVar 6) (eOp2 oMod (eOp2 oFdiv (eVar 8) (eInt 5)) (eVar 7)))) (sOwn [] 6 fAppend (eCall F__law_marks (aCons (eOp2 oFdiv (eVar 8) (eInt 5)) (aCons (eVar 7) (aCons (eVar 3) (aCons (eVar 5) aNil)))))))))
  (sRet (eOp1 oTuple (eVar 6)))))))
def F__law_word : List D → R S := runB 9 body__law_word
theorem sc__law_word : FnScope ["_law_script", "_law_at", "_law_most", "_law_many", "_law_cell", "_law_size", "_law_found", "_law_k", "_law_number"] ["_law_script", "_law_at", "_law_most", "_law_many"] (defScope st__law_word) := ⟨rfl, rfl, rfl, by decide +kernel, rfl, by decide +kernel, by decide +kernel⟩
theorem ok__law_word {P : Program} {w : World} {K : PySem.W.Frag} {mg : Str → Option Value} {base : Heap} {f : Addr} {fd : FuncData} (h : Has K mg "_law_word" st__law_word ["_law_script", "_law_at", "_law_most", "_law_many"] f fd) (C__law_cell_at : Cal P w K mg base (XR K) 1 "_law_cell_at" F__law_cell_at 2) (C__law_marks : CalF P w K mg base (XR K) 2 "_law_marks" F__law_marks 4) (z_range : mg "range" = none) (z_tuple : mg "tuple" = none) : CalF P w K mg base (XR K) 3 "_law_word" F__law_word 4 := by
  refine def_calG (N := ["_law_script", "_law_at", "_law_most", "_law_many", "_law_cell", "_law_size", "_law_found", "_law_k", "_law_number"]) (fun i => [0, 0, 0, 0, 0, 1, 2, 0, 0].getD i 0) true h sc__law_word rfl rfl fun cdv A outer s H E Z0 hr => ?_
  have hu := Hu hr
  exact (b_cons (s_set 4 sc__law_word.nd (x_cal C__law_cell_at hr (by decide) (takes_of rfl rfl rfl rfl) (fun _ _ _ _ _ z => z) (a_cons (x_var 0) (a_cons (x_var 1) a_nil)) (aLen_cons (aLen_cons aLen_nil))))
  (b_cons (s_set 5 sc__law_word.nd (x_item (x_lst (a_cons x_int (a_cons x_int (a_cons x_int (a_cons (x_pow x_int x_int) a_nil)))) (aLen_cons (aLen_cons (aLen_cons (aLen_cons aLen_nil))))) (x_mod (x_var 4) x_int)))
  (b_cons (s_set 6 sc__law_word.nd (x_lst a_nil aLen_nil))
  (b_cons (s_for 0 (passes_of rfl) rfl (i_range1 z_range (x_add x_int (x_mod (x_fdiv (x_var 4) x_int) (x_var 2)))) (g_name sc__law_word.nd) (b_cons (s_set 8 sc__law_word.nd (x_cal C__law_cell_at hr (by decide) (takes_of rfl rfl rfl rfl) (fun _ _ _ _ _ z => z) (a_cons (x_var 0) (a_cons (x_add (x_add (x_var 1) x_int) (x_var 7)) a_nil)) (aLen_cons (aLen_cons aLen_nil))))
  (b_one (s_if (t_w (w_and (t_eq hu (x_mod (x_var 8) x_int) x_int) (w_and1 (t_gt (x_var 7) x_int)))) (b_one (s_append 6 (x_item (x_var 6) (x_mod (x_fdiv (x_var 8) x_int) (x_var 7))))) (b_one (s_append 6 (x_calF C__law_marks hr (by decide) (takes_of rfl rfl rfl rfl) (fun _ _ _ _ _ z => z) (a_cons (x_fdiv (x_var 8) x_int) (a_cons (x_var 7) (a_cons (x_var 3) (a_cons (x_var 5) a_nil)))) (aLen_cons (aLen_cons (aLen_cons (aLen_cons aLen_nil)))))))))))
  (b_one (s_ret (x_tuple z_tuple (x_var 6))))))))
/-! may_come -/
abbrev st_may_come : Stmt := topS 1
def body_may_come : Sx := (sSeq (sFor [0] (aIter (eVar 0)) (gName 3) (sIf (tAnd (tVal (eOp2 oEq (eOp2 oItem (eVar 3) (eVar 2)) (eStr [76]))) (tVal (eOp2 oNotIn (eStr [87]) (eComp [1] [4] (aIter (eVar 1)) (gName 4) tTrue (eOp2 oItem (eVar 3) (eVar 4)))))) (sRet (eBl false)) sNop))
  (sRet (eBl true)))
def F_may_come : List D → R S := runB 5 body_may_come
theorem sc_may_come : FnScope ["rows", "ahead", "wish", "row", "other"] ["rows", "ahead", "wish"] (defScope st_may_come) := ⟨rfl, rfl, rfl, by decide +kernel, rfl, by decide +kernel, by decide +kernel⟩
theorem ok_may_come {P : Program} {w : World} {K : PySem.W.Frag} {mg : Str → Option Value} {base : Heap} {f : Addr} {fd : FuncData} (h : Has K mg "may_come" st_may_come ["rows", "ahead", "wish"] f fd) : CalF P w K mg base (XR K) 1 "may_come" F_may_come 3 := by
  refine def_calG (N := ["rows", "ahead", "wish", "row", "other"]) (fun i => [0, 0, 0, 0, 0].getD i 0) true h sc_may_come rfl rfl fun cdv A outer s H E Z0 hr => ?_
  have hu := Hu hr
  exact (b_cons (s_for 0 (passes_of rfl) rfl (i_seq (x_var 0)) (g_name sc_may_come.nd) (b_one (s_if (t_w (w_and (t_eq hu (x_item (x_var 3) (x_var 2)) (x_str [76])) (w_and1 (t_notIn hu (x_str [87]) (x_comp 0 (k_name 4) rfl sc_may_come.nd (i_seq (x_var 1)) (blkOk_by (own := [("other", 4)]) rfl) (fun _ _ _ _ _ => (g_name sc_may_come.nd)) (fun _ _ _ _ _ => ts_nil) (fun _ _ _ _ _ => (x_item (x_var 3) (x_var 4)))))))) (b_one (s_ret x_bl)) b_nil)))
  (b_one (s_ret x_bl)))
/-! first_ranking -/
abbrev st_first_ranking : Stmt := topS 3
def body_first_ranking : Sx := (sSeq (sSet [] 2 (eLst aNil))
  (sSeq (sWhile 5000 (tVal (eOp2 oLt (eOp1 oLen (eVar 2)) (eVar 0))) (sSeq (sSet [4] 3 (eComp [] [4] (aRange1 (eVar 0)) (gName 4) (tAnd (tVal (eOp2 oNotIn (eVar 4) (eVar 2))) (tVal (eCall F_may_come (aCons (eVar 1) (aCons (eVar 2) (aCons (eVar 4) aNil)))))) (eVar 4)))
  (sSeq (sIf (tVal (eOp2 oEq (eVar 3) (eLst aNil))) (sRet eNon) sNop)
  (sOwn [3] 2 fAppend (eOp2 oItem (eVar 3) (eInt 0))))))
  (sRet (eOp1 oTuple (eVar 2)))))
def F_first_ranking : List D → R S := runB 5 body_first_ranking
theorem sc_first_ranking : FnScope ["count", "rows", "ranking", "free", "wish"] ["count", "rows"] (defScope st_first_ranking) := ⟨rfl, rfl, rfl, by decide +kernel, rfl, by decide +kernel, by decide +kernel⟩
theorem ok_first_ranking {P : Program} {w : World} {K : PySem.W.Frag} {mg : Str → Option Value} {base : Heap} {f : Addr} {fd : FuncData} (h : Has K mg "first_ranking" st_first_ranking ["count", "rows"] f fd) (C_may_come : CalF P w K mg base (XR K) 1 "may_come" F_may_come 3) (z_len : mg "len" = none) (z_range : mg "range" = none) (z_tuple : mg "tuple" = none) : CalF P w K mg base (XR K) 2 "first_ranking" F_first_ranking 2 := by
  refine def_calG (N := ["count", "rows", "ranking", "free", "wish"]) (fun i => [0, 0, 1, 1, 1].getD i 0) true h sc_first_ranking rfl rfl fun cdv A outer s H E Z0 hr => ?_
  have hu := Hu hr
  exact (b_cons (s_set 2 sc_first_ranking.nd (x_lst a_nil aLen_nil))
  (b_cons (s_while 5000 (passes_of rfl) (t_lt hu (x_len z_len (x_var 2)) (x_var 0)) (b_cons (s_setLc 3 1 (k_name 4) rfl sc_first_ranking.nd (i_range1 z_range (x_var 0)) (blkOk_by (own := [("wish", 4)]) rfl) (fun _ _ _ _ _ => (g_name sc_first_ranking.nd)) (fun _ _ _ _ _ => (ts_one (t_w (w_and (t_notIn hu (x_var 4) (x_var 2)) (w_and1 (t_val (x_calF C_may_come hr (by decide) takes0 (fun _ _ _ _ _ _ => trivial) (a_cons (x_var 1) (a_cons (x_var 2) (a_cons (x_var 4) a_nil))) (aLen_cons (aLen_cons (aLen_cons aLen_nil)))))))))) (fun _ _ _ _ _ => (x_var 4)) (by rfl))
  (b_cons (s_if (t_eq hu (x_var 3) (x_lst a_nil aLen_nil)) (b_one (s_ret x_non)) b_nil)
  (b_one (s_append 2 (x_item (x_var 3) x_int))))))
  (b_one (s_ret (x_tuple z_tuple (x_var 2))))))
/-! marked -/
abbrev st_marked : Stmt := topS 14
def body_marked : Sx := (sSeq (sFor [1] (aIter (eVar 1)) (gName 4) (sIf (tVal (eOp2 oEq (eOp2 oItem (eOp2 oItem (eVar 0) (eVar 4)) (eVar 2)) (eVar 3))) (sRet (eBl true)) sNop))
  (sRet (eBl false)))
def F_marked : List D → R S := runB 5 body_marked
theorem sc_marked : FnScope ["rows", "places", "wish", "sign", "place"] ["rows", "places", "wish", "sign"] (defScope st_marked) := ⟨rfl, rfl, rfl, by decide +kernel, rfl, by decide +kernel, by decide +kernel⟩
theorem ok_marked {P : Program} {w : World} {K : PySem.W.Frag} {mg : Str → Option Value} {base : Heap} {f : Addr} {fd : FuncData} (h : Has K mg "marked" st_marked ["rows", "places", "wish", "sign"] f fd) : CalF P w K mg base (XR K) 1 "marked" F_marked 4 := by
  refine def_calG (N := ["rows", "places", "wish", "sign", "place"]) (fun i => [0, 0, 0, 0, 0].getD i 0) true h sc_marked rfl rfl fun cdv A outer s H E Z0 hr => ?_
  have hu := Hu hr
  exact (b_cons (s_for 0 (passes_of rfl) rfl (i_seq (x_var 1)) (g_name sc_marked.nd) (b_one (s_if (t_eq hu (x_item (x_item (x_var 0) (x_var 4)) (x_var 2)) (x_var 3)) (b_one (s_ret x_bl)) b_nil)))
  (b_one (s_ret x_bl)))
/-! floors -/
abbrev st_floors : Stmt := topS 15
def body_floors : Sx := (sSeq (sSet [] 2 (eRg1 mkO (eOp1 oLen (eVar 1))))
  (sSeq (sSet [] 3 (eRg1 mkO (eVar 0)))
  (sSeq (sSet [] 4 (eLst aNil))
  (sSeq (sWhile 5000 (tVal (eOp2 oNe (eVar 3) (eLst aNil))) (sSeq (sSet [3, 6] 5 (eComp [3] [6] (aIter (eVar 3)) (gName 6) (tNot (tVal (eCall F_marked (aCons (eVar 1) (aCons (eVar 2) (aCons (eVar 6) (aCons (eStr [76]) aNil))))))) (eVar 6)))
  (sSeq (sIf (tVal (eOp2 oEq (eVar 5) (eLst aNil))) (sRet (eTup (aCons (eBl false) (aCons (eVar 2) aNil)))) sNop)
  (sSeq (sOwn [5] 4 fAppend (eVar 5))
  (sSeq (sSet [3, 6] 3 (eComp [3] [6] (aIter (eVar 3)) (gName 6) (tVal (eOp2 oNotIn (eVar 6) (eVar 5))) (eVar 6)))
  (sSet [2, 7] 2 (eComp [2] [7] (aIter (eVar 2)) (gName 7) (tVal (eOp2 oNotIn (eStr [87]) (eComp [5] [6] (aIter (eVar 5)) (gName 6) tTrue (eOp2 oItem (eOp2 oItem (eVar 1) (eVar 7)) (eVar 6))))) (eVar 7))))))))
  (sRet (eTup (aCons (eBl true) (aCons (eVar 4) aNil))))))))
def F_floors : List D → R S := runB 8 body_floors
theorem sc_floors : FnScope ["count", "rows", "left", "waiting", "found", "floor", "wish", "place"] ["count", "rows"] (defScope st_floors) := ⟨rfl, rfl, rfl, by decide +kernel, rfl, by decide +kernel, by decide +kernel⟩
theorem ok_floors {P : Program} {w : World} {K : PySem.W.Frag} {mg : Str → Option Value} {base : Heap} {f : Addr} {fd : FuncData} (h : Has K mg "floors" st_floors ["count", "rows"] f fd) (C_marked : CalF P w K mg base (XR K) 1 "marked" F_marked 4) (z_len : mg "len" = none) (z_list : mg "list" = none) (z_range : mg "range" = none) : CalF P w K mg base (XR K) 2 "floors" F_floors 2 := by
  refine def_calG (N := ["count", "rows", "left", "waiting", "found", "floor", "wish", "place"]) (fun i => [0, 0, 1, 2, 2, 2, 2, 1].getD i 0) true h sc_floors rfl rfl fun cdv A outer s H E Z0 hr => ?_
  have hu := Hu hr
  exact (b_cons (s_set 2 sc_floors.nd (x_listRg1 rfl z_list z_range (x_len z_len (x_var 1))))
  (b_cons (s_set 3 sc_floors.nd (x_listRg1 rfl z_list z_range (x_var 0)))
  (b_cons (s_set 4 sc_floors.nd (x_lst a_nil aLen_nil))
  (b_cons (s_while 5000 (passes_of rfl) (t_ne hu (x_var 3) (x_lst a_nil aLen_nil)) (b_cons (s_set 5 sc_floors.nd (x_comp 2 (k_name 6) rfl sc_floors.nd (i_seq (x_var 3)) (blkOk_by (own := [("wish", 6)]) rfl) (fun _ _ _ _ _ => (g_name sc_floors.nd)) (fun _ _ _ _ _ => (ts_one (t_not (t_val (x_calF C_marked hr (by decide) takes0 (fun _ _ _ _ _ _ => trivial) (a_cons (x_var 1) (a_cons (x_var 2) (a_cons (x_var 6) (a_cons (x_str [76]) a_nil)))) (aLen_cons (aLen_cons (aLen_cons (aLen_cons aLen_nil))))))))) (fun _ _ _ _ _ => (x_var 6))))
  (b_cons (s_if (t_eq hu (x_var 5) (x_lst a_nil aLen_nil)) (b_one (s_ret (x_tup (a_cons x_bl (a_cons (x_var 2) a_nil)) (aLen_cons (aLen_cons aLen_nil))))) b_nil)
  (b_cons (s_append 4 (x_var 5))
  (b_cons (s_setLc 3 2 (k_name 6) rfl sc_floors.nd (i_seq (x_var 3)) (blkOk_by (own := [("wish", 6)]) rfl) (fun _ _ _ _ _ => (g_name sc_floors.nd)) (fun _ _ _ _ _ => (ts_one (t_notIn hu (x_var 6) (x_var 5)))) (fun _ _ _ _ _ => (x_var 6)) (by rfl))
  (b_one (s_set 2 sc_floors.nd (x_comp 1 (k_name 7) rfl sc_floors.nd (i_seq (x_var 2)) (blkOk_by (own := [("place", 7)]) rfl) (fun _ _ _ _ _ => (g_name sc_floors.nd)) (fun _ _ _ _ _ => (ts_one (t_notIn hu (x_str [87]) (x_comp 2 (k_name 6) rfl sc_floors.nd (i_seq (x_var 5)) (blkOk_by (own := [("wish", 6)]) rfl) (fun _ _ _ _ _ => (g_name sc_floors.nd)) (fun _ _ _ _ _ => ts_nil) (fun _ _ _ _ _ => (x_item (x_item (x_var 1) (x_var 7)) (x_var 6))))))) (fun _ _ _ _ _ => (x_var 7))))))))))
  (b_one (s_ret (x_tup (a_cons x_bl (a_cons (x_var 4) a_nil)) (aLen_cons (aLen_cons aLen_nil)))))))))
/-! row_of -/
abbrev st_row_of : Stmt := topS 9
def body_row_of : Sx := (sSeq (sSet [] 2 (eStr []))
  (sSeq (sFor [0, 1] (aZipM (eVar 0) (eVar 1)) (gTup 2 (gCons (gName 3) (gCons (gName 4) gNil))) (sSet [2] 2 (eOp2 oAdd (eVar 2) (eOp2 oItem (eStr [87, 101, 76]) (eOp2 oAdd (eOp1 oInt (eOp2 oGe (eVar 3) (eVar 4))) (eOp1 oInt (eOp2 oGt (eVar 3) (eVar 4))))))))
  (sRetV 2)))
def F_row_of : List D → R S := runB 5 body_row_of
theorem sc_row_of : FnScope ["one", "two", "found", "mine", "theirs"] ["one", "two"] (defScope st_row_of) := ⟨rfl, rfl, rfl, by decide +kernel, rfl, by decide +kernel, by decide +kernel⟩
theorem ok_row_of {P : Program} {w : World} {K : PySem.W.Frag} {mg : Str → Option Value} {base : Heap} {f : Addr} {fd : FuncData} (h : Has K mg "row_of" st_row_of ["one", "two"] f fd) (z_int : mg "int" = none) (z_zip : mg "zip" = none) {t_SIGNS : Tok} (c_SIGNS : mg "SIGNS" = some (.str "WeL" t_SIGNS)) : CalF P w K mg base (XR K) 1 "row_of" F_row_of 2 := by
  refine def_calG (N := ["one", "two", "found", "mine", "theirs"]) (fun i => [0, 0, 1, 0, 0].getD i 0) true h sc_row_of rfl rfl fun cdv A outer s H E Z0 hr => ?_
  have hu := Hu hr
  exact (b_cons (s_set 2 sc_row_of.nd (x_str []))
  (b_cons (s_for 0 (passes_of rfl) rfl (i_zipM z_zip (x_var 0) (x_var 1)) (g_tup rfl (gs_cons (g_name sc_row_of.nd) (gs_cons (g_name sc_row_of.nd) gs_nil))) (b_one (s_set 2 sc_row_of.nd (x_add (x_var 2) (x_item (x_gstr [87, 101, 76] c_SIGNS (by decide +kernel)) (x_add (x_toInt z_int (x_ge (x_var 3) (x_var 4))) (x_toInt z_int (x_gt (x_var 3) (x_var 4)))))))))
  (b_one (s_retV 2))))
/-! chance -/
abbrev st_chance : Stmt := topS 17
def body_chance : Sx := (sSeq (sIf (tOr (tVal (eOp2 oLt (eVar 1) (eInt 0))) (tVal (eOp2 oGe (eVar 1) (eOp1 oLen (eVar 0))))) sBad sNop)
  (sSeq (sSet [6] 2 (eComp [] [6] (aRange1 (eOp1 oLen (eVar 0))) (gName 6) (tVal (eOp2 oNe (eVar 6) (eVar 1))) (eVar 6)))
  (sSeq (sSet [] 3 (eComp [2] [6] (aIter (eVar 2)) (gName 6) tTrue (eCall F_row_of (aCons (eOp2 oItem (eVar 0) (eVar 1)) (aCons (eOp2 oItem (eVar 0) (eVar 6)) aNil)))))
  (sSeq (sSet [] 4 (eOp1 oLen (eOp2 oItem (eVar 0) (eVar 1))))
  (sSeq (sSet [] 5 (eCall F_first_ranking (aCons (eVar 4) (aCons (eVar 3) aNil))))
  (sSeq (sIf (tVal (eOp1 oNotN (eVar 5))) (sRet (eTup (aCons (eBl true) (aCons (eVar 5) aNil)))) sNop)
  (sRet (eTup (aCons (eBl false) (aCons (eComp [] [7] (aIter (eOp2 oItem (eCall F_floors (aCons (eVar 4) (aCons (eVar 3) aNil))) (eInt 1))) (gName 7) tTrue (eOp2 oItem (eVar 2) (eVar 7))) aNil))))))))))
def F_chance : List D → R S := runB 8 body_chance
theorem sc_chance : FnScope ["word", "number", "others", "rows", "count", "ranking", "k", "place"] ["word", "number"] (defScope st_chance) := ⟨rfl, rfl, rfl, by decide +kernel, rfl, by decide +kernel, by decide +kernel⟩
theorem ok_chance {P : Program} {w : World} {K : PySem.W.Frag} {mg : Str → Option Value} {base : Heap} {f : Addr} {fd : FuncData} (h : Has K mg "chance" st_chance ["word", "number"] f fd) (C_first_ranking : CalF P w K mg base (XR K) 2 "first_ranking" F_first_ranking 2) (C_floors : CalF P w K mg base (XR K) 2 "floors" F_floors 2) (C_row_of : CalF P w K mg base (XR K) 1 "row_of" F_row_of 2) (z_len : mg "len" = none) (z_range : mg "range" = none) : CalF P w K mg base (XR K) 3 "chance" F_chance 2 := by
  refine def_calG (N := ["word", "number", "others", "rows", "count", "ranking", "k", "place"]) (fun i => [0, 0, 1, 2, 3, 4, 1, 5].getD i 0) true h sc_chance rfl rfl fun cdv A outer s H E Z0 hr => ?_
  have hu := Hu hr
  exact (b_cons (s_if (t_w (w_or (t_lt hu (x_var 1) x_int) (w_or1 (t_ge (x_var 1) (x_len z_len (x_var 0)))))) (b_one s_never) b_nil)
  (b_cons (s_set 2 sc_chance.nd (x_comp 1 (k_name 6) rfl sc_chance.nd (i_range1 z_range (x_len z_len (x_var 0))) (blkOk_by (own := [("k", 6)]) rfl) (fun _ _ _ _ _ => (g_name sc_chance.nd)) (fun _ _ _ _ _ => (ts_one (t_ne hu (x_var 6) (x_var 1)))) (fun _ _ _ _ _ => (x_var 6))))
  (b_cons (s_setLcF 3 1 (k_name 6) rfl sc_chance.nd (i_seq (x_var 2)) (blkOk_by (own := [("k", 6)]) rfl) (fun _ _ _ _ _ => (g_name sc_chance.nd)) (fun _ _ _ _ _ => ts_nil) (fun _ _ _ _ _ => (x_calF C_row_of hr (by decide) takes0 (fun _ _ _ _ _ _ => trivial) (a_cons (x_item (x_var 0) (x_var 1)) (a_cons (x_item (x_var 0) (x_var 6)) a_nil)) (aLen_cons (aLen_cons aLen_nil)))) (by rfl))
  (b_cons (s_set 4 sc_chance.nd (x_len z_len (x_item (x_var 0) (x_var 1))))
  (b_cons (s_set 5 sc_chance.nd (x_calF C_first_ranking hr (by decide) (takes_of rfl rfl rfl rfl) (fun _ _ _ _ _ z => z) (a_cons (x_var 4) (a_cons (x_var 3) a_nil)) (aLen_cons (aLen_cons aLen_nil))))
  (b_cons (s_if (t_notN (x_var 5)) (b_one (s_ret (x_tup (a_cons x_bl (a_cons (x_var 5) a_nil)) (aLen_cons (aLen_cons aLen_nil))))) b_nil)
  (b_one (s_ret (x_tup (a_cons x_bl (a_cons (x_comp 5 (k_name 7) rfl sc_chance.nd (i_seq (x_item (x_calF C_floors hr (by decide) (takes_of rfl rfl rfl rfl) (fun _ _ _ _ _ z => z) (a_cons (x_var 4) (a_cons (x_var 3) a_nil)) (aLen_cons (aLen_cons aLen_nil))) x_int)) (blkOk_by (own := [("place", 7)]) rfl) (fun _ _ _ _ _ => (g_name sc_chance.nd)) (fun _ _ _ _ _ => ts_nil) (fun _ _ _ _ _ => (x_item (x_var 2) (x_var 7)))) a_nil)) (aLen_cons (aLen_cons aLen_nil)))))))))))
/-! how_many -/
abbrev st_how_many : Stmt := topS 2
def body_how_many : Sx := (sSeq (sSet [] 3 (eComp [] [2] (aRange1 (eOp2 oShl (eInt 1) (eVar 0))) (gName 2) tTrue (eInt 0)))
  (sSeq (sItem [] 3 (eInt 1) (eInt 0))
  (sSeq (sFor [] (aRange1 (eOp2 oShl (eInt 1) (eVar 0))) (gName 2) (sSeq (sSet [4] 5 (eComp [] [4] (aRange1 (eVar 0)) (gName 4) (tVal (eOp2 oEq (eOp2 oAnd (eOp2 oShr (eVar 2) (eVar 4)) (eInt 1)) (eInt 1))) (eVar 4)))
  (sFor [] (aRange1 (eVar 0)) (gName 4) (sIf (tAnd (tVal (eOp2 oGt (eOp2 oItem (eVar 3) (eVar 2)) (eInt 0))) (tAnd (tVal (eOp2 oNotIn (eVar 4) (eVar 5))) (tVal (eCall F_may_come (aCons (eVar 1) (aCons (eVar 5) (aCons (eVar 4) aNil))))))) (sAug 3 (eOp2 oItem (eVar 3) (eVar 2)) (eOp2 oOr (eVar 2) (eOp2 oShl (eInt 1) (eVar 4)))) sNop))))
  (sRet (eOp2 oItem (eVar 3) (eOp1 oNeg (eInt 1)))))))
def F_how_many : List D → R S := runB 6 body_how_many
theorem sc_how_many : FnScope ["count", "rows", "bits", "ways", "wish", "ahead"] ["count", "rows"] (defScope st_how_many) := ⟨rfl, rfl, rfl, by decide +kernel, rfl, by decide +kernel, by decide +kernel⟩
theorem ok_how_many {P : Program} {w : World} {K : PySem.W.Frag} {mg : Str → Option Value} {base : Heap} {f : Addr} {fd : FuncData} (h : Has K mg "how_many" st_how_many ["count", "rows"] f fd) (C_may_come : CalF P w K mg base (XR K) 1 "may_come" F_may_come 3) (z_range : mg "range" = none) : CalF P w K mg base (XR K) 2 "how_many" F_how_many 2 := by
  refine def_calG (N := ["count", "rows", "bits", "ways", "wish", "ahead"]) (fun i => [0, 0, 1, 2, 3, 3].getD i 0) true h sc_how_many rfl rfl fun cdv A outer s H E Z0 hr => ?_
  have hu := Hu hr
  exact (b_cons (s_setLcF 3 1 (k_name 2) rfl sc_how_many.nd (i_range1 z_range (x_shl x_int (x_var 0))) (blkOk_by (own := [("bits", 2)]) rfl) (fun _ _ _ _ _ => (g_name sc_how_many.nd)) (fun _ _ _ _ _ => ts_nil) (fun _ _ _ _ _ => x_int) (by rfl))
  (b_cons (s_item 3 x_int x_int)
  (b_cons (s_for 1 (passes_of rfl) rfl (i_range1 z_range (x_shl x_int (x_var 0))) (g_name sc_how_many.nd) (b_cons (s_setLc 5 3 (k_name 4) rfl sc_how_many.nd (i_range1 z_range (x_var 0)) (blkOk_by (own := [("wish", 4)]) rfl) (fun _ _ _ _ _ => (g_name sc_how_many.nd)) (fun _ _ _ _ _ => (ts_one (t_eq hu (x_band (x_shr (x_var 2) (x_var 4)) x_int) x_int))) (fun _ _ _ _ _ => (x_var 4)) (by rfl))
  (b_one (s_for 3 (passes_of rfl) rfl (i_range1 z_range (x_var 0)) (g_name sc_how_many.nd) (b_one (s_if (t_w (w_and (t_gt (x_item (x_var 3) (x_var 2)) x_int) (w_and (t_notIn hu (x_var 4) (x_var 5)) (w_and1 (t_val (x_calF C_may_come hr (by decide) (takes_of rfl rfl rfl rfl) (fun _ _ _ _ _ z => z) (a_cons (x_var 1) (a_cons (x_var 5) (a_cons (x_var 4) a_nil))) (aLen_cons (aLen_cons (aLen_cons aLen_nil))))))))) (b_one (s_aug 3 (x_item (x_var 3) (x_var 2)) (x_bor (x_var 2) (x_shl x_int (x_var 4))))) b_nil))))))
  (b_one (s_ret (x_item (x_var 3) (x_neg x_int)))))))
/-! rows_of_choice -/
abbrev st_rows_of_choice : Stmt := topS 11
def body_rows_of_choice : Sx := (sRet (eComp [0] [2] (aIter (eVar 0)) (gName 2) tTrue (eCall F_row_of (aCons (eOp2 oItem (eVar 0) (eVar 1)) (aCons (eVar 2) aNil)))))
def F_rows_of_choice : List D → R S := runB 3 body_rows_of_choice
theorem sc_rows_of_choice : FnScope ["word", "number", "other"] ["word", "number"] (defScope st_rows_of_choice) := ⟨rfl, rfl, rfl, by decide +kernel, rfl, by decide +kernel, by decide +kernel⟩
theorem ok_rows_of_choice {P : Program} {w : World} {K : PySem.W.Frag} {mg : Str → Option Value} {base : Heap} {f : Addr} {fd : FuncData} (h : Has K mg "rows_of_choice" st_rows_of_choice ["word", "number"] f fd) (C_row_of : CalF P w K mg base (XR K) 1 "row_of" F_row_of 2) : CalF P w K mg base (XR K) 2 "rows_of_choice" F_rows_of_choice 2 := by
  refine def_calG (N := ["word", "number", "other"]) (fun i => [0, 0, 0].getD i 0) true h sc_rows_of_choice rfl rfl fun cdv A outer s H E Z0 hr => ?_
  have hu := Hu hr
  exact (b_one (s_ret (x_compF 0 (k_name 2) rfl sc_rows_of_choice.nd (i_seq (x_var 0)) (blkOk_by (own := [("other", 2)]) rfl) (fun _ _ _ _ _ => (g_name sc_rows_of_choice.nd)) (fun _ _ _ _ _ => ts_nil) (fun _ _ _ _ _ => (x_calF C_row_of hr (by decide) takes0 (fun _ _ _ _ _ _ => trivial) (a_cons (x_item (x_var 0) (x_var 1)) (a_cons (x_var 2) a_nil)) (aLen_cons (aLen_cons aLen_nil)))))))
/-! tongues -/
abbrev st_tongues : Stmt := topS 12
def body_tongues : Sx := (sSeq (sSet [] 2 (eLst (aCons (eTup (aCons (eTup aNil) (aCons (eLst aNil) aNil))) aNil)))
  (sSeq (sFor [1] (aIter (eVar 1)) (gName 3) (sSeq (sSet [] 4 (eLst aNil))
  (sSeq (sFor [2] (aIter (eVar 2)) (gTup 2 (gCons (gName 5) (gCons (gName 6) gNil))) (sFor [] (aRange1 (eOp1 oLen (eVar 3))) (gName 7) (sIf (tVal (eOp2 oNotIn (eOp2 oItem (eVar 3) (eVar 7)) (eSl (eVar 3) pNone (pSome (eVar 7))))) (sSeq (sSet [6] 8 (eOp2 oAdd (eVar 6) (eCall F_rows_of_choice (aCons (eVar 3) (aCons (eVar 7) aNil)))))
  (sSeq (sSet [11] 9 (eOp1 oTuple (eComp [] [11] (aRange1 (eOp1 oLen (eVar 3))) (gName 11) (tVal (eOp2 oEq (eOp2 oItem (eVar 3) (eVar 11)) (eOp2 oItem (eVar 3) (eVar 7)))) (eVar 11))))
  (sIf (tVal (eOp1 oNotN (eCall F_first_ranking (aCons (eVar 0) (aCons (eVar 8) aNil))))) (sOwn [5, 9, 8] 4 fAppend (eTup (aCons (eOp2 oAdd (eVar 5) (eTup (aCons (eVar 9) aNil))) (aCons (eVar 8) aNil)))) sNop))) sNop)))
  (sSet [4] 2 (eVar 4)))))
  (sSeq (sSet [] 10 (eLst aNil))
  (sSeq (sFor [2] (aIter (eVar 2)) (gTup 2 (gCons (gName 5) (gCons (gName 6) gNil))) (sOwn [5] 10 fAppend (eTup (aCons (eVar 5) (aCons (eCall F_first_ranking (aCons (eVar 0) (aCons (eVar 6) aNil))) (aCons (eCall F_how_many (aCons (eVar 0) (aCons (eVar 6) aNil))) aNil))))))
  (sSortK 10)))))
def F_tongues : List D → R S := runB 12 body_tongues
theorem sc_tongues : FnScope ["count", "words", "kinds", "word", "longer", "some", "rows", "number", "more", "alike", "found", "k"] ["count", "words"] (defScope st_tongues) := ⟨rfl, rfl, rfl, by decide +kernel, rfl, by decide +kernel, by decide +kernel⟩
theorem ok_tongues {P : Program} {w : World} {K : PySem.W.Frag} {mg : Str → Option Value} {base : Heap} {f : Addr} {fd : FuncData} (h : Has K mg "tongues" st_tongues ["count", "words"] f fd) (C_first_ranking : CalF P w K mg base (XR K) 2 "first_ranking" F_first_ranking 2) (C_how_many : CalF P w K mg base (XR K) 2 "how_many" F_how_many 2) (C_rows_of_choice : CalF P w K mg base (XR K) 2 "rows_of_choice" F_rows_of_choice 2) (z_len : mg "len" = none) (z_range : mg "range" = none) (z_sorted : mg "sorted" = none) (z_tuple : mg "tuple" = none) {c Pt : Addr} (hcode : fd.code = .ref c) (TB : LamX.TabB base mg c Pt) : CalT P w K mg base Pt (("tongues" : Str) ++ ".<locals>." ++ "<lambda>") 3 "tongues" F_tongues 2 := by
  refine def_calT (N := ["count", "words", "kinds", "word", "longer", "some", "rows", "number", "more", "alike", "found", "k"]) (xr := XR K) (fun i => [0, 0, 1, 0, 1, 1, 1, 2, 1, 1, 1, 1].getD i 0) h hcode sc_tongues rfl rfl (by unfold body_tongues; repeat (first | exact noNx_sortK | apply noNx_seq)) fun A outer s H E Z0 hr => ?_
  have hu := Hu hr
  exact (b_consB rfl rfl (s_set 2 sc_tongues.nd (x_lst (a_cons (x_tup (a_cons (x_tup a_nil aLen_nil) (a_cons (x_lst a_nil aLen_nil) a_nil)) (aLen_cons (aLen_cons aLen_nil))) a_nil) (aLen_cons aLen_nil)))
  (b_consB rfl rfl (s_for 0 (passes_of rfl) rfl (i_seq (x_var 1)) (g_name sc_tongues.nd) (b_cons (s_set 4 sc_tongues.nd (x_lst a_nil aLen_nil))
  (b_cons (s_for 1 (passes_of rfl) rfl (i_seq (x_var 2)) (g_tup rfl (gs_cons (g_name sc_tongues.nd) (gs_cons (g_name sc_tongues.nd) gs_nil))) (b_one (s_for 2 (passes_of rfl) rfl (i_range1 z_range (x_len z_len (x_var 3))) (g_name sc_tongues.nd) (b_one (s_if (t_notIn hu (x_item (x_var 3) (x_var 7)) (x_sl (x_var 3) p_none (p_some (x_var 7)))) (b_cons (s_set 8 sc_tongues.nd (x_add (x_var 6) (x_calF C_rows_of_choice hr (by decide) (takes_of rfl rfl rfl rfl) (fun _ _ _ _ _ z => z) (a_cons (x_var 3) (a_cons (x_var 7) a_nil)) (aLen_cons (aLen_cons aLen_nil)))))
  (b_cons (s_set 9 sc_tongues.nd (x_tuple z_tuple (x_comp 1 (k_name 11) rfl sc_tongues.nd (i_range1 z_range (x_len z_len (x_var 3))) (blkOk_by (own := [("k", 11)]) rfl) (fun _ _ _ _ _ => (g_name sc_tongues.nd)) (fun _ _ _ _ _ => (ts_one (t_eq hu (x_item (x_var 3) (x_var 11)) (x_item (x_var 3) (x_var 7))))) (fun _ _ _ _ _ => (x_var 11)))))
  (b_one (s_if (t_notN (x_calF C_first_ranking hr (by decide) (takes_of rfl rfl rfl rfl) (fun _ _ _ _ _ z => z) (a_cons (x_var 0) (a_cons (x_var 8) a_nil)) (aLen_cons (aLen_cons aLen_nil)))) (b_one (s_append 4 (x_tup (a_cons (x_add (x_var 5) (x_tup (a_cons (x_var 9) a_nil) (aLen_cons aLen_nil))) (a_cons (x_var 8) a_nil)) (aLen_cons (aLen_cons aLen_nil))))) b_nil)))) b_nil)))))
  (b_one (s_set 2 sc_tongues.nd (x_var 4))))))
  (b_consB rfl rfl (s_set 10 sc_tongues.nd (x_lst a_nil aLen_nil))
  (b_consB rfl rfl (s_for 1 (passes_of rfl) rfl (i_seq (x_var 2)) (g_tup rfl (gs_cons (g_name sc_tongues.nd) (gs_cons (g_name sc_tongues.nd) gs_nil))) (b_one (s_append 10 (x_tup (a_cons (x_var 5) (a_cons (x_calF C_first_ranking hr (by decide) (takes_of rfl rfl rfl rfl) (fun _ _ _ _ _ z => z) (a_cons (x_var 0) (a_cons (x_var 6) a_nil)) (aLen_cons (aLen_cons aLen_nil))) (a_cons (x_calF C_how_many hr (by decide) (takes_of rfl rfl rfl rfl) (fun _ _ _ _ _ z => z) (a_cons (x_var 0) (a_cons (x_var 6) a_nil)) (aLen_cons (aLen_cons aLen_nil))) a_nil))) (aLen_cons (aLen_cons (aLen_cons aLen_nil)))))))
  (s_sortK (pe_sortK (i := 10) (c := c) (P := Pt) hr TB rfl rfl (by first | exact Or.inl rfl | exact Or.inr (Or.inl rfl)) rfl rfl rfl rfl (by decide) (by decide) (by decide) rfl (fun _ _ _ _ _ _ => rfl) rfl z_sorted))))))
/-! law -/
abbrev st_law : Stmt := topS 31
def body_law : Sx := (sSeq (sSet [0] 1 (eCall F__law_cell_at (aCons (eVar 0) (aCons (eInt 0) aNil))))
  (sSeq (sSet [] 2 (eOp2 oItem (eLst (aCons (eInt 1) (aCons (eInt 2) (aCons (eInt 3) (aCons (eInt 4) (aCons (eInt 4) (aCons (eInt 5) aNil))))))) (eOp2 oMod (eVar 1) (eInt 6))))
  (sSeq (sSet [] 3 (eComp [] [13] (aRange1 (eOp2 oAdd (eInt 1) (eOp2 oMod (eOp2 oFdiv (eVar 1) (eInt 6)) (eInt 2)))) (gName 13) tTrue (eCall F__law_word (aCons (eVar 0) (aCons (eOp2 oAdd (eInt 1) (eOp2 oMul (eInt 7) (eVar 13))) (aCons (eOp2 oItem (eLst (aCons (eInt 5) (aCons (eInt 3) aNil))) (eOp1 oInt (eOp2 oEq (eVar 2) (eInt 5)))) (aCons (eVar 2) aNil)))))))
  (sSeq (sCallT 4 (eCall F_tongues (aCons (eVar 2) (aCons (eOp1 oList (eVar 3)) aNil))))
  (sSeq (sSet [4, 14] 5 (eComp [4] [14] (aIter (eVar 4)) (gName 14) tTrue (eOp2 oItem (eVar 14) (eInt 0))))
  (sSeq (sIf (tOr (tVal (eOp2 oNe (eLenSetN (eVar 5)) (eOp1 oLen (eVar 5)))) (tVal (eOp2 oNe (eOp1 oSum (eComp [4] [14] (aIter (eVar 4)) (gName 14) tTrue (eOp2 oItem (eVar 14) (eInt 2)))) (eCall F__law_orders (aCons (eVar 2) aNil))))) (sRet (eBl false)) sNop)
  (sSeq (sFor [4] (aIter (eVar 4)) (gTup 3 (gCons (gName 6) (gCons (gName 7) (gCons (gName 8) gNil)))) (sSeq (sIf (tOr (tVal (eOp2 oNe (eCall F__law_tongue (aCons (eVar 7) (aCons (eVar 3) aNil))) (eVar 6))) (tVal (eOp2 oLt (eVar 8) (eInt 1)))) (sRet (eBl false)) sNop)
  (sIf (tVal (eOp2 oNe (eCall F_how_many (aCons (eVar 2) (aCons (eCall F__law_rows_of (aCons (eVar 6) (aCons (eVar 3) aNil))) aNil))) (eVar 8))) (sRet (eBl false)) sNop)))
  (sSeq (sFor [0] (aIter (eSl (eVar 0) (pSome (eInt 19)) (pSome (eInt 63)))) (gName 9) (sSeq (sSet [] 10 (eCall F__law_ranking (aCons (eVar 9) (aCons (eVar 2) aNil))))
  (sSeq (sSet [] 6 (eCall F__law_tongue (aCons (eVar 10) (aCons (eVar 3) aNil))))
  (sIf (tOr (tVal (eOp2 oNotIn (eVar 6) (eVar 5))) (tVal (eOp2 oGtT (eOp2 oItem (eOp2 oItem (eVar 4) (eM D.isL oIndex (eVar 5) (eVar 6))) (eInt 1)) (eVar 10)))) (sRet (eBl false)) sNop))))
  (sSeq (sFor [] (aRange1 (eOp1 oLen (eOp2 oItem (eVar 3) (eInt 0)))) (gName 8) (sSeq (sSet [4, 7] 11 (eComp [4] [6, 7, 15] (aIter (eVar 4)) (gTup 3 (gCons (gName 6) (gCons (gName 7) (gCons (gName 15) gNil)))) (tVal (eOp2 oIn (eVar 8) (eOp2 oItem (eVar 6) (eInt 0)))) (eVar 7)))
  (sSeq (sSet [] 12 (eCall F_chance (aCons (eOp2 oItem (eVar 3) (eInt 0)) (aCons (eVar 8) aNil))))
  (sIf (tOr (tVal (eOp2 oNe (eOp2 oItem (eVar 12) (eInt 0)) (eOp2 oGt (eOp1 oLen (eVar 11)) (eInt 0)))) (tAnd (tVal (eOp2 oItem (eVar 12) (eInt 0))) (tVal (eOp2 oNe (eOp2 oItem (eVar 12) (eInt 1)) (eOp1 oMinT (eVar 11)))))) (sRet (eBl false)) sNop))))
  (sRet (eBl true)))))))))))
def F_law : List D → R S := runB 16 body_law
theorem sc_law : FnScope ["_law_script", "_law_cell", "_law_many", "_law_words", "_law_told", "_law_kinds", "_law_some", "_law_first", "_law_number", "_law_other", "_law_ranking_here", "_law_firsts", "_law_found", "_law_k", "_law_row", "_law_count"] ["_law_script"] (defScope st_law) := ⟨rfl, rfl, rfl, by decide +kernel, rfl, by decide +kernel, by decide +kernel⟩
theorem ok_law {P : Program} {w : World} {K : PySem.W.Frag} {mg : Str → Option Value} {base : Heap} {f : Addr} {fd : FuncData} (h : Has K mg "law" st_law ["_law_script"] f fd) (C__law_cell_at : Cal P w K mg base (XR K) 1 "_law_cell_at" F__law_cell_at 2) (C__law_orders : CalF P w K mg base (XR K) 1 "_law_orders" F__law_orders 1) (C__law_ranking : CalF P w K mg base (XR K) 2 "_law_ranking" F__law_ranking 2) (C__law_rows_of : CalF P w K mg base (XR K) 2 "_law_rows_of" F__law_rows_of 2) (C__law_tongue : CalF P w K mg base (XR K) 3 "_law_tongue" F__law_tongue 2) (C__law_word : CalF P w K mg base (XR K) 3 "_law_word" F__law_word 4) (C_chance : CalF P w K mg base (XR K) 3 "chance" F_chance 2) (C_how_many : CalF P w K mg base (XR K) 2 "how_many" F_how_many 2) {Pt : Addr} (C_tongues : CalT P w K mg base Pt (("tongues" : Str) ++ ".<locals>." ++ "<lambda>") 3 "tongues" F_tongues 2) (z_int : mg "int" = none) (z_len : mg "len" = none) (z_list : mg "list" = none) (z_min : mg "min" = none) (z_range : mg "range" = none) (z_set : mg "set" = none) (z_sum : mg "sum" = none) (T : ∀ ns : List Int, ns.length ≤ 63 → F_law [.scr ns] = .ok (.val (.bl true))) : FnOk P w K mg base (L2.CX P w) 4 f fd ["_law_script"] (spLawU K Pt (("tongues" : Str) ++ ".<locals>." ++ "<lambda>")) := by
  refine law_any (law_fnT (N := ["_law_script", "_law_cell", "_law_many", "_law_words", "_law_told", "_law_kinds", "_law_some", "_law_first", "_law_number", "_law_other", "_law_ranking_here", "_law_firsts", "_law_found", "_law_k", "_law_row", "_law_count"]) (xr := XR K) (G := fun i => [0, 0, 1, 2, 3, 3, 3, 3, 3, 0, 4, 3, 5, 6, 3, 3].getD i 0) h sc_law rfl rfl (fun cdv A outer s H E hr => ?_) T) rfl
  have hu := Hu hr
  exact (b_consL (fun _ _ => (s_set 1 sc_law.nd (x_cal C__law_cell_at hr (by decide) (takes_of rfl rfl rfl rfl) (fun _ _ _ _ _ z => z) (a_cons (x_var 0) (a_cons x_int a_nil)) (aLen_cons (aLen_cons aLen_nil)))))
  (b_consL (fun _ _ => (s_set 2 sc_law.nd (x_item (x_lst (a_cons x_int (a_cons x_int (a_cons x_int (a_cons x_int (a_cons x_int (a_cons x_int a_nil)))))) (aLen_cons (aLen_cons (aLen_cons (aLen_cons (aLen_cons (aLen_cons aLen_nil))))))) (x_mod (x_var 1) x_int))))
  (b_consL (fun _ _ => (s_setLcF 3 6 (k_name 13) rfl sc_law.nd (i_range1 z_range (x_add x_int (x_mod (x_fdiv (x_var 1) x_int) x_int))) (blkOk_by (own := [("_law_k", 13)]) rfl) (fun _ _ _ _ _ => (g_name sc_law.nd)) (fun _ _ _ _ _ => ts_nil) (fun _ _ _ _ _ => (x_calF C__law_word hr (by decide) takes0 (fun _ _ _ _ _ _ => trivial) (a_cons (x_var 0) (a_cons (x_add x_int (x_mul x_int (x_var 13))) (a_cons (x_item (x_lst (a_cons x_int (a_cons x_int a_nil)) (aLen_cons (aLen_cons aLen_nil))) (x_toInt z_int (x_eq hu (x_var 2) x_int))) (a_cons (x_var 2) a_nil)))) (aLen_cons (aLen_cons (aLen_cons (aLen_cons aLen_nil)))))) (by rfl)))
  (b_callL (i := 4) C_tongues (hr.mono (by decide)) (takes_of rfl rfl rfl rfl) (a_cons (x_var 2) (a_cons (x_list z_list (x_var 3)) a_nil)) (aLen_cons (aLen_cons aLen_nil)) (b_restL fun _ _ => (b_cons (s_setLc 5 3 (k_name 14) rfl sc_law.nd (i_seq (x_var 4)) (blkOk_by (own := [("_law_row", 14)]) rfl) (fun _ _ _ _ _ => (g_name sc_law.nd)) (fun _ _ _ _ _ => ts_nil) (fun _ _ _ _ _ => (x_item (x_var 14) x_int)) (by rfl))
  (b_cons (s_if (t_w (w_or (t_ne hu (x_lenSetN hu rfl z_len z_set (x_var 5)) (x_len z_len (x_var 5))) (w_or1 (t_ne hu (x_sum rfl z_sum (x_comp 3 (k_name 14) rfl sc_law.nd (i_seq (x_var 4)) (blkOk_by (own := [("_law_row", 14)]) rfl) (fun _ _ _ _ _ => (g_name sc_law.nd)) (fun _ _ _ _ _ => ts_nil) (fun _ _ _ _ _ => (x_item (x_var 14) x_int)))) (x_calF C__law_orders hr (by decide) (takes_of rfl rfl rfl rfl) (fun _ _ _ _ _ z => z) (a_cons (x_var 2) a_nil) (aLen_cons aLen_nil)))))) (b_one (s_ret x_bl)) b_nil)
  (b_cons (s_for 3 (passes_of rfl) rfl (i_seq (x_var 4)) (g_tup rfl (gs_cons (g_name sc_law.nd) (gs_cons (g_name sc_law.nd) (gs_cons (g_name sc_law.nd) gs_nil)))) (b_cons (s_if (t_w (w_or (t_ne hu (x_calF C__law_tongue hr (by decide) (takes_of rfl rfl rfl rfl) (fun _ _ _ _ _ z => z) (a_cons (x_var 7) (a_cons (x_var 3) a_nil)) (aLen_cons (aLen_cons aLen_nil))) (x_var 6)) (w_or1 (t_lt hu (x_var 8) x_int)))) (b_one (s_ret x_bl)) b_nil)
  (b_one (s_if (t_ne hu (x_calF C_how_many hr (by decide) (takes_of rfl rfl rfl rfl) (fun _ _ _ _ _ z => z) (a_cons (x_var 2) (a_cons (x_calF C__law_rows_of hr (by decide) (takes_of rfl rfl rfl rfl) (fun _ _ _ _ _ z => z) (a_cons (x_var 6) (a_cons (x_var 3) a_nil)) (aLen_cons (aLen_cons aLen_nil))) a_nil)) (aLen_cons (aLen_cons aLen_nil))) (x_var 8)) (b_one (s_ret x_bl)) b_nil))))
  (b_cons (s_for 0 (passes_of rfl) rfl (i_seq (x_sl (x_var 0) (p_some x_int) (p_some x_int))) (g_name sc_law.nd) (b_cons (s_set 10 sc_law.nd (x_calF C__law_ranking hr (by decide) (takes_of rfl rfl rfl rfl) (fun _ _ _ _ _ z => z) (a_cons (x_var 9) (a_cons (x_var 2) a_nil)) (aLen_cons (aLen_cons aLen_nil))))
  (b_cons (s_set 6 sc_law.nd (x_calF C__law_tongue hr (by decide) (takes_of rfl rfl rfl rfl) (fun _ _ _ _ _ z => z) (a_cons (x_var 10) (a_cons (x_var 3) a_nil)) (aLen_cons (aLen_cons aLen_nil))))
  (b_one (s_if (t_w (w_or (t_notIn hu (x_var 6) (x_var 5)) (w_or1 (t_gtT hu (x_item (x_item (x_var 4) (x_index hu (x_var 5) (x_var 6))) x_int) (x_var 10))))) (b_one (s_ret x_bl)) b_nil)))))
  (b_cons (s_for 3 (passes_of rfl) rfl (i_range1 z_range (x_len z_len (x_item (x_var 3) x_int))) (g_name sc_law.nd) (b_cons (s_setLc 11 3 (k_tup (ks_cons (k_name 6) (ks_cons (k_name 7) (ks_cons (k_name 15) ks_nil)))) rfl sc_law.nd (i_seq (x_var 4)) (blkOk_by (own := [("_law_some", 6), ("_law_first", 7), ("_law_count", 15)]) rfl) (fun _ _ _ _ _ => (g_tup rfl (gs_cons (g_name sc_law.nd) (gs_cons (g_name sc_law.nd) (gs_cons (g_name sc_law.nd) gs_nil))))) (fun _ _ _ _ _ => (ts_one (t_in hu (x_var 8) (x_item (x_var 6) x_int)))) (fun _ _ _ _ _ => (x_var 7)) (by rfl))
  (b_cons (s_set 12 sc_law.nd (x_calF C_chance hr (by decide) (takes_of rfl rfl rfl rfl) (fun _ _ _ _ _ z => z) (a_cons (x_item (x_var 3) x_int) (a_cons (x_var 8) a_nil)) (aLen_cons (aLen_cons aLen_nil))))
  (b_one (s_if (t_w (w_or (t_ne hu (x_item (x_var 12) x_int) (x_gt (x_len z_len (x_var 11)) x_int)) (w_or1 (t_w (w_and (t_val (x_item (x_var 12) x_int)) (w_and1 (t_ne hu (x_item (x_var 12) x_int) (x_minT hu rfl z_min (x_var 11))))))))) (b_one (s_ret x_bl)) b_nil)))))
  (b_one (s_ret x_bl)))))))) sc_law.nd rfl (.inl rfl) rfl (.inr rfl)))))

theorem all_mk {l : PySem.W.OpenLaw} {w : World} {K : PySem.W.Frag} {h : Heap} {mg : Str → Option Value} {fa f0 f1 f2 f3 f4 f5 f6 f7 f8 f9 f10 f11 f12 f13 f14 f15 f16 f17 f18 f19 f20 f21 : Addr} (X : K.In h) (G : h.Ns mainGlobals mg) (hfa : mg "law" = some (.ref fa))
    {od0 an0 od1 an1 od2 an2 od3 an3 od4 an4 od5 an5 od6 an6 od7 an7 od8 an8 od9 an9 od10 an10 od11 an11 od12 an12 od13 an13 od14 an14 od15 an15 od16 an16 od17 an17 od18 an18 od19 an19 od20 an20 od21 an21 : Option Addr} {sl0 sl1 sl2 sl3 sl4 sl5 sl6 sl7 sl8 sl9 sl10 sl11 sl12 sl13 sl14 sl15 sl16 sl17 sl18 sl19 sl20 sl21 : Array (Option Value)} {oc0 kV0 dc0 pm0 cd0 ct0 oc1 kV1 dc1 pm1 cd1 ct1 oc2 kV2 dc2 pm2 cd2 ct2 oc3 kV3 dc3 pm3 cd3 ct3 oc4 kV4 dc4 pm4 cd4 ct4 oc5 kV5 dc5 pm5 cd5 ct5 oc6 kV6 dc6 pm6 cd6 ct6 oc7 kV7 dc7 pm7 cd7 ct7 oc8 kV8 dc8 pm8 cd8 ct8 oc9 kV9 dc9 pm9 cd9 ct9 oc10 kV10 dc10 pm10 cd10 ct10 oc11 kV11 dc11 pm11 cd11 ct11 oc12 kV12 dc12 pm12 cd12 ct12 oc13 kV13 dc13 pm13 cd13 ct13 oc14 kV14 dc14 pm14 cd14 ct14 oc15 kV15 dc15 pm15 cd15 ct15 oc16 kV16 dc16 pm16 cd16 ct16 oc17 kV17 dc17 pm17 cd17 ct17 oc18 kV18 dc18 pm18 cd18 ct18 oc19 kV19 dc19 pm19 cd19 ct19 oc20 kV20 dc20 pm20 cd20 ct20 oc21 kV21 dc21 pm21 cd21 ct21 : Value} {t_SIGNS : Tok} 
    (a0 : PySem.W.nsIn K mainGlobals "_law_cell_at" = some (some (.ref f0))) (l0 : K.lookup f0 = some ⟨oc0, od0, .func (PySem.W.fnOf "_law_cell_at" "_law_cell_at" (defArgs st__law_cell_at) (defBody st__law_cell_at) (defScope st__law_cell_at) .none kV0 dc0 pm0 an0 cd0 ct0), sl0⟩) (c0 : PySem.W.codeIn K cd0 "_law_cell_at" = true) (k0 : PySem.W.keepIn K (.ref f0) = true)
    (a1 : PySem.W.nsIn K mainGlobals "_law_orders" = some (some (.ref f1))) (l1 : K.lookup f1 = some ⟨oc1, od1, .func (PySem.W.fnOf "_law_orders" "_law_orders" (defArgs st__law_orders) (defBody st__law_orders) (defScope st__law_orders) .none kV1 dc1 pm1 an1 cd1 ct1), sl1⟩) (c1 : PySem.W.codeIn K cd1 "_law_orders" = true) (k1 : PySem.W.keepIn K (.ref f1) = true)
    (a2 : PySem.W.nsIn K mainGlobals "_law_mixed" = some (some (.ref f2))) (l2 : K.lookup f2 = some ⟨oc2, od2, .func (PySem.W.fnOf "_law_mixed" "_law_mixed" (defArgs st__law_mixed) (defBody st__law_mixed) (defScope st__law_mixed) .none kV2 dc2 pm2 an2 cd2 ct2), sl2⟩) (c2 : PySem.W.codeIn K cd2 "_law_mixed" = true) (k2 : PySem.W.keepIn K (.ref f2) = true)
    (a3 : PySem.W.nsIn K mainGlobals "_law_order" = some (some (.ref f3))) (l3 : K.lookup f3 = some ⟨oc3, od3, .func (PySem.W.fnOf "_law_order" "_law_order" (defArgs st__law_order) (defBody st__law_order) (defScope st__law_order) .none kV3 dc3 pm3 an3 cd3 ct3), sl3⟩) (c3 : PySem.W.codeIn K cd3 "_law_order" = true) (k3 : PySem.W.keepIn K (.ref f3) = true)
    (a4 : PySem.W.nsIn K mainGlobals "_law_ranking" = some (some (.ref f4))) (l4 : K.lookup f4 = some ⟨oc4, od4, .func (PySem.W.fnOf "_law_ranking" "_law_ranking" (defArgs st__law_ranking) (defBody st__law_ranking) (defScope st__law_ranking) .none kV4 dc4 pm4 an4 cd4 ct4), sl4⟩) (c4 : PySem.W.codeIn K cd4 "_law_ranking" = true) (k4 : PySem.W.keepIn K (.ref f4) = true)
    (a5 : PySem.W.nsIn K mainGlobals "_law_row_of" = some (some (.ref f5))) (l5 : K.lookup f5 = some ⟨oc5, od5, .func (PySem.W.fnOf "_law_row_of" "_law_row_of" (defArgs st__law_row_of) (defBody st__law_row_of) (defScope st__law_row_of) .none kV5 dc5 pm5 an5 cd5 ct5), sl5⟩) (c5 : PySem.W.codeIn K cd5 "_law_row_of" = true) (k5 : PySem.W.keepIn K (.ref f5) = true)
    (a6 : PySem.W.nsIn K mainGlobals "_law_rows_of" = some (some (.ref f6))) (l6 : K.lookup f6 = some ⟨oc6, od6, .func (PySem.W.fnOf "_law_rows_of" "_law_rows_of" (defArgs st__law_rows_of) (defBody st__law_rows_of) (defScope st__law_rows_of) .none kV6 dc6 pm6 an6 cd6 ct6), sl6⟩) (c6 : PySem.W.codeIn K cd6 "_law_rows_of" = true) (k6 : PySem.W.keepIn K (.ref f6) = true)
    (a7 : PySem.W.nsIn K mainGlobals "_law_beats" = some (some (.ref f7))) (l7 : K.lookup f7 = some ⟨oc7, od7, .func (PySem.W.fnOf "_law_beats" "_law_beats" (defArgs st__law_beats) (defBody st__law_beats) (defScope st__law_beats) .none kV7 dc7 pm7 an7 cd7 ct7), sl7⟩) (c7 : PySem.W.codeIn K cd7 "_law_beats" = true) (k7 : PySem.W.keepIn K (.ref f7) = true)
    (a8 : PySem.W.nsIn K mainGlobals "_law_best" = some (some (.ref f8))) (l8 : K.lookup f8 = some ⟨oc8, od8, .func (PySem.W.fnOf "_law_best" "_law_best" (defArgs st__law_best) (defBody st__law_best) (defScope st__law_best) .none kV8 dc8 pm8 an8 cd8 ct8), sl8⟩) (c8 : PySem.W.codeIn K cd8 "_law_best" = true) (k8 : PySem.W.keepIn K (.ref f8) = true)
    (a9 : PySem.W.nsIn K mainGlobals "_law_tongue" = some (some (.ref f9))) (l9 : K.lookup f9 = some ⟨oc9, od9, .func (PySem.W.fnOf "_law_tongue" "_law_tongue" (defArgs st__law_tongue) (defBody st__law_tongue) (defScope st__law_tongue) .none kV9 dc9 pm9 an9 cd9 ct9), sl9⟩) (c9 : PySem.W.codeIn K cd9 "_law_tongue" = true) (k9 : PySem.W.keepIn K (.ref f9) = true)
    (a10 : PySem.W.nsIn K mainGlobals "_law_marks" = some (some (.ref f10))) (l10 : K.lookup f10 = some ⟨oc10, od10, .func (PySem.W.fnOf "_law_marks" "_law_marks" (defArgs st__law_marks) (defBody st__law_marks) (defScope st__law_marks) .none kV10 dc10 pm10 an10 cd10 ct10), sl10⟩) (c10 : PySem.W.codeIn K cd10 "_law_marks" = true) (k10 : PySem.W.keepIn K (.ref f10) = true)
    (a11 : PySem.W.nsIn K mainGlobals "_law_word" = some (some (.ref f11))) (l11 : K.lookup f11 = some ⟨oc11, od11, .func (PySem.W.fnOf "_law_word" "_law_word" (defArgs st__law_word) (defBody st__law_word) (defScope st__law_word) .none kV11 dc11 pm11 an11 cd11 ct11), sl11⟩) (c11 : PySem.W.codeIn K cd11 "_law_word" = true) (k11 : PySem.W.keepIn K (.ref f11) = true)
    (a12 : PySem.W.nsIn K mainGlobals "may_come" = some (some (.ref f12))) (l12 : K.lookup f12 = some ⟨oc12, od12, .func (PySem.W.fnOf "may_come" "may_come" (defArgs st_may_come) (defBody st_may_come) (defScope st_may_come) .none kV12 dc12 pm12 an12 cd12 ct12), sl12⟩) (c12 : PySem.W.codeIn K cd12 "may_come" = true) (k12 : PySem.W.keepIn K (.ref f12) = true)
    (a13 : PySem.W.nsIn K mainGlobals "first_ranking" = some (some (.ref f13))) (l13 : K.lookup f13 = some ⟨oc13, od13, .func (PySem.W.fnOf "first_ranking" "first_ranking" (defArgs st_first_ranking) (defBody st_first_ranking) (defScope st_first_ranking) .none kV13 dc13 pm13 an13 cd13 ct13), sl13⟩) (c13 : PySem.W.codeIn K cd13 "first_ranking" = true) (k13 : PySem.W.keepIn K (.ref f13) = true)
    (a14 : PySem.W.nsIn K mainGlobals "marked" = some (some (.ref f14))) (l14 : K.lookup f14 = some ⟨oc14, od14, .func (PySem.W.fnOf "marked" "marked" (defArgs st_marked) (defBody st_marked) (defScope st_marked) .none kV14 dc14 pm14 an14 cd14 ct14), sl14⟩) (c14 : PySem.W.codeIn K cd14 "marked" = true) (k14 : PySem.W.keepIn K (.ref f14) = true)
    (a15 : PySem.W.nsIn K mainGlobals "floors" = some (some (.ref f15))) (l15 : K.lookup f15 = some ⟨oc15, od15, .func (PySem.W.fnOf "floors" "floors" (defArgs st_floors) (defBody st_floors) (defScope st_floors) .none kV15 dc15 pm15 an15 cd15 ct15), sl15⟩) (c15 : PySem.W.codeIn K cd15 "floors" = true) (k15 : PySem.W.keepIn K (.ref f15) = true)
    (a16 : PySem.W.nsIn K mainGlobals "row_of" = some (some (.ref f16))) (l16 : K.lookup f16 = some ⟨oc16, od16, .func (PySem.W.fnOf "row_of" "row_of" (defArgs st_row_of) (defBody st_row_of) (defScope st_row_of) .none kV16 dc16 pm16 an16 cd16 ct16), sl16⟩) (c16 : PySem.W.codeIn K cd16 "row_of" = true) (k16 : PySem.W.keepIn K (.ref f16) = true)
    (a17 : PySem.W.nsIn K mainGlobals "chance" = some (some (.ref f17))) (l17 : K.lookup f17 = some ⟨oc17, od17, .func (PySem.W.fnOf "chance" "chance" (defArgs st_chance) (defBody st_chance) (defScope st_chance) .none kV17 dc17 pm17 an17 cd17 ct17), sl17⟩) (c17 : PySem.W.codeIn K cd17 "chance" = true) (k17 : PySem.W.keepIn K (.ref f17) = true)
    (a18 : PySem.W.nsIn K mainGlobals "how_many" = some (some (.ref f18))) (l18 : K.lookup f18 = some ⟨oc18, od18, .func (PySem.W.fnOf "how_many" "how_many" (defArgs st_how_many) (defBody st_how_many) (defScope st_how_many) .none kV18 dc18 pm18 an18 cd18 ct18), sl18⟩) (c18 : PySem.W.codeIn K cd18 "how_many" = true) (k18 : PySem.W.keepIn K (.ref f18) = true)
    (a19 : PySem.W.nsIn K mainGlobals "rows_of_choice" = some (some (.ref f19))) (l19 : K.lookup f19 = some ⟨oc19, od19, .func (PySem.W.fnOf "rows_of_choice" "rows_of_choice" (defArgs st_rows_of_choice) (defBody st_rows_of_choice) (defScope st_rows_of_choice) .none kV19 dc19 pm19 an19 cd19 ct19), sl19⟩) (c19 : PySem.W.codeIn K cd19 "rows_of_choice" = true) (k19 : PySem.W.keepIn K (.ref f19) = true)
    (a20 : PySem.W.nsIn K mainGlobals "tongues" = some (some (.ref f20))) (l20 : K.lookup f20 = some ⟨oc20, od20, .func (PySem.W.fnOf "tongues" "tongues" (defArgs st_tongues) (defBody st_tongues) (defScope st_tongues) .none kV20 dc20 pm20 an20 cd20 ct20), sl20⟩) (c20 : PySem.W.codeIn K cd20 "tongues" = true) (k20 : PySem.W.keepIn K (.ref f20) = true)
    (a21 : PySem.W.nsIn K mainGlobals "law" = some (some (.ref f21))) (l21 : K.lookup f21 = some ⟨oc21, od21, .func (PySem.W.fnOf "law" "law" (defArgs st_law) (defBody st_law) (defScope st_law) .none kV21 dc21 pm21 an21 cd21 ct21), sl21⟩) (c21 : PySem.W.codeIn K cd21 "law" = true) (k21 : PySem.W.keepIn K (.ref f21) = true)
    (z_int : PySem.W.nsIn K mainGlobals "int" = some none)
    (z_len : PySem.W.nsIn K mainGlobals "len" = some none)
    (z_list : PySem.W.nsIn K mainGlobals "list" = some none)
    (z_min : PySem.W.nsIn K mainGlobals "min" = some none)
    (z_range : PySem.W.nsIn K mainGlobals "range" = some none)
    (z_set : PySem.W.nsIn K mainGlobals "set" = some none)
    (z_sorted : PySem.W.nsIn K mainGlobals "sorted" = some none)
    (z_sum : PySem.W.nsIn K mainGlobals "sum" = some none)
    (z_tuple : PySem.W.nsIn K mainGlobals "tuple" = some none)
    (z_zip : PySem.W.nsIn K mainGlobals "zip" = some none)
    (g_SIGNS : PySem.W.nsIn K mainGlobals "SIGNS" = some (some (.str "WeL" t_SIGNS)))
    {ct Pt : Addr} (tI : PySem.W.tabIn K "tongues" = some (ct, Pt)) (nP : K.lookup Pt = none) (cdE : cd20 = .ref ct) (tb : ∀ c P : Addr, PySem.W.tabIn K "tongues" = some (c, P) → PySem.W.CodeHd h c P ∧ h.get? P = some { cls := .none, data := .fields #[] }) (T : ∀ ns : List Int, ns.length ≤ 63 → F_law [.scr ns] = .ok (.val (.bl true))) :
    LamX.LawAtS l w K (L2.CX l.prog w) 4 63 "_law_script" mg fa h := by
  have e := hfa.symm.trans (PySem.W.mg_of X G a21)
  cases e
  have H0 : Has K mg "_law_cell_at" st__law_cell_at ["_law_script", "_law_k"] _ _ := has_of X G a0 l0 c0 k0 fun F => F.binds (ps := ["_law_script", "_law_k"]) fun _ _ _ _ _ _ us hl => match us, hl with | [_, _], _ => rfl
  have H1 : Has K mg "_law_orders" st__law_orders ["_law_many"] _ _ := has_of X G a1 l1 c1 k1 fun F => F.binds (ps := ["_law_many"]) fun _ _ _ _ _ _ us hl => match us, hl with | [_], _ => rfl
  have H2 : Has K mg "_law_mixed" st__law_mixed ["_law_cell", "_law_place"] _ _ := has_of X G a2 l2 c2 k2 fun F => F.binds (ps := ["_law_cell", "_law_place"]) fun _ _ _ _ _ _ us hl => match us, hl with | [_, _], _ => rfl
  have H3 : Has K mg "_law_order" st__law_order ["_law_number", "_law_many"] _ _ := has_of X G a3 l3 c3 k3 fun F => F.binds (ps := ["_law_number", "_law_many"]) fun _ _ _ _ _ _ us hl => match us, hl with | [_, _], _ => rfl
  have H4 : Has K mg "_law_ranking" st__law_ranking ["_law_cell", "_law_many"] _ _ := has_of X G a4 l4 c4 k4 fun F => F.binds (ps := ["_law_cell", "_law_many"]) fun _ _ _ _ _ _ us hl => match us, hl with | [_, _], _ => rfl
  have H5 : Has K mg "_law_row_of" st__law_row_of ["_law_one", "_law_two"] _ _ := has_of X G a5 l5 c5 k5 fun F => F.binds (ps := ["_law_one", "_law_two"]) fun _ _ _ _ _ _ us hl => match us, hl with | [_, _], _ => rfl
  have H6 : Has K mg "_law_rows_of" st__law_rows_of ["_law_some", "_law_words"] _ _ := has_of X G a6 l6 c6 k6 fun F => F.binds (ps := ["_law_some", "_law_words"]) fun _ _ _ _ _ _ us hl => match us, hl with | [_, _], _ => rfl
  have H7 : Has K mg "_law_beats" st__law_beats ["_law_ranking_here", "_law_one", "_law_two"] _ _ := has_of X G a7 l7 c7 k7 fun F => F.binds (ps := ["_law_ranking_here", "_law_one", "_law_two"]) fun _ _ _ _ _ _ us hl => match us, hl with | [_, _, _], _ => rfl
  have H8 : Has K mg "_law_best" st__law_best ["_law_ranking_here", "_law_word_here"] _ _ := has_of X G a8 l8 c8 k8 fun F => F.binds (ps := ["_law_ranking_here", "_law_word_here"]) fun _ _ _ _ _ _ us hl => match us, hl with | [_, _], _ => rfl
  have H9 : Has K mg "_law_tongue" st__law_tongue ["_law_ranking_here", "_law_words"] _ _ := has_of X G a9 l9 c9 k9 fun F => F.binds (ps := ["_law_ranking_here", "_law_words"]) fun _ _ _ _ _ _ us hl => match us, hl with | [_, _], _ => rfl
  have H10 : Has K mg "_law_marks" st__law_marks ["_law_cell", "_law_place", "_law_many", "_law_size"] _ _ := has_of X G a10 l10 c10 k10 fun F => F.binds (ps := ["_law_cell", "_law_place", "_law_many", "_law_size"]) fun _ _ _ _ _ _ us hl => match us, hl with | [_, _, _, _], _ => rfl
  have H11 : Has K mg "_law_word" st__law_word ["_law_script", "_law_at", "_law_most", "_law_many"] _ _ := has_of X G a11 l11 c11 k11 fun F => F.binds (ps := ["_law_script", "_law_at", "_law_most", "_law_many"]) fun _ _ _ _ _ _ us hl => match us, hl with | [_, _, _, _], _ => rfl
  have H12 : Has K mg "may_come" st_may_come ["rows", "ahead", "wish"] _ _ := has_of X G a12 l12 c12 k12 fun F => F.binds (ps := ["rows", "ahead", "wish"]) fun _ _ _ _ _ _ us hl => match us, hl with | [_, _, _], _ => rfl
  have H13 : Has K mg "first_ranking" st_first_ranking ["count", "rows"] _ _ := has_of X G a13 l13 c13 k13 fun F => F.binds (ps := ["count", "rows"]) fun _ _ _ _ _ _ us hl => match us, hl with | [_, _], _ => rfl
  have H14 : Has K mg "marked" st_marked ["rows", "places", "wish", "sign"] _ _ := has_of X G a14 l14 c14 k14 fun F => F.binds (ps := ["rows", "places", "wish", "sign"]) fun _ _ _ _ _ _ us hl => match us, hl with | [_, _, _, _], _ => rfl
  have H15 : Has K mg "floors" st_floors ["count", "rows"] _ _ := has_of X G a15 l15 c15 k15 fun F => F.binds (ps := ["count", "rows"]) fun _ _ _ _ _ _ us hl => match us, hl with | [_, _], _ => rfl
  have H16 : Has K mg "row_of" st_row_of ["one", "two"] _ _ := has_of X G a16 l16 c16 k16 fun F => F.binds (ps := ["one", "two"]) fun _ _ _ _ _ _ us hl => match us, hl with | [_, _], _ => rfl
  have H17 : Has K mg "chance" st_chance ["word", "number"] _ _ := has_of X G a17 l17 c17 k17 fun F => F.binds (ps := ["word", "number"]) fun _ _ _ _ _ _ us hl => match us, hl with | [_, _], _ => rfl
  have H18 : Has K mg "how_many" st_how_many ["count", "rows"] _ _ := has_of X G a18 l18 c18 k18 fun F => F.binds (ps := ["count", "rows"]) fun _ _ _ _ _ _ us hl => match us, hl with | [_, _], _ => rfl
  have H19 : Has K mg "rows_of_choice" st_rows_of_choice ["word", "number"] _ _ := has_of X G a19 l19 c19 k19 fun F => F.binds (ps := ["word", "number"]) fun _ _ _ _ _ _ us hl => match us, hl with | [_, _], _ => rfl
  have H20 : Has K mg "tongues" st_tongues ["count", "words"] _ _ := has_of X G a20 l20 c20 k20 fun F => F.binds (ps := ["count", "words"]) fun _ _ _ _ _ _ us hl => match us, hl with | [_, _], _ => rfl
  have H21 : Has K mg "law" st_law ["_law_script"] _ _ := has_of X G a21 l21 c21 k21 fun F => F.binds (ps := ["_law_script"]) fun _ _ _ _ _ _ us hl => match us, hl with | [_], _ => rfl
  have Z_int := PySem.W.mg_none_of X G z_int
  have Z_len := PySem.W.mg_none_of X G z_len
  have Z_list := PySem.W.mg_none_of X G z_list
  have Z_min := PySem.W.mg_none_of X G z_min
  have Z_range := PySem.W.mg_none_of X G z_range
  have Z_set := PySem.W.mg_none_of X G z_set
  have Z_sorted := PySem.W.mg_none_of X G z_sorted
  have Z_sum := PySem.W.mg_none_of X G z_sum
  have Z_tuple := PySem.W.mg_none_of X G z_tuple
  have Z_zip := PySem.W.mg_none_of X G z_zip
  have G_SIGNS := PySem.W.mg_of X G g_SIGNS
  obtain ⟨tb1, tb2⟩ := tb ct Pt tI
  refine ⟨PySem.W.fnOf "law" "law" (defArgs st_law) (defBody st_law) (defScope st_law) .none kV21 dc21 pm21 an21 cd21 ct21, [(ct, Pt)], spLawU K Pt (("tongues" : Str) ++ ".<locals>." ++ "<lambda>"), fun p hp => by rw [List.mem_singleton.mp hp]; exact tb2, fun p hp => by rw [List.mem_singleton.mp hp]; exact nP, fun p hp => by rw [List.mem_singleton.mp hp]; exact tb1, fun s v => .of_eq rfl, fun H a ns hl _ hH hS => ⟨LamX.TabS.nil (hH (ct, Pt) (List.mem_singleton.mpr rfl)), a, ns, rfl, hS, hl, fun _ => rfl⟩, fun base _ _ hTB => ?_⟩
  have C__law_cell_at : Cal l.prog w K mg base (XR K) 1 "_law_cell_at" F__law_cell_at 2 := ok__law_cell_at H0 Z_len
  have C__law_orders : CalF l.prog w K mg base (XR K) 1 "_law_orders" F__law_orders 1 := ok__law_orders H1 Z_range
  have C__law_mixed : CalF l.prog w K mg base (XR K) 1 "_law_mixed" F__law_mixed 2 := ok__law_mixed H2 
  have C__law_order : CalF l.prog w K mg base (XR K) 1 "_law_order" F__law_order 2 := ok__law_order H3 Z_len Z_list Z_range Z_tuple
  have C__law_ranking : CalF l.prog w K mg base (XR K) 2 "_law_ranking" F__law_ranking 2 := ok__law_ranking H4 C__law_mixed C__law_order
  have C__law_row_of : CalF l.prog w K mg base (XR K) 1 "_law_row_of" F__law_row_of 2 := ok__law_row_of H5 Z_int Z_zip
  have C__law_rows_of : CalF l.prog w K mg base (XR K) 2 "_law_rows_of" F__law_rows_of 2 := ok__law_rows_of H6 C__law_row_of Z_zip
  have C__law_beats : CalF l.prog w K mg base (XR K) 1 "_law_beats" F__law_beats 3 := ok__law_beats H7 
  have C__law_best : CalF l.prog w K mg base (XR K) 2 "_law_best" F__law_best 2 := ok__law_best H8 C__law_beats Z_len Z_range
  have C__law_tongue : CalF l.prog w K mg base (XR K) 3 "_law_tongue" F__law_tongue 2 := ok__law_tongue H9 C__law_best Z_tuple
  have C__law_marks : CalF l.prog w K mg base (XR K) 2 "_law_marks" F__law_marks 4 := ok__law_marks H10 C__law_mixed Z_range Z_tuple
  have C__law_word : CalF l.prog w K mg base (XR K) 3 "_law_word" F__law_word 4 := ok__law_word H11 C__law_cell_at C__law_marks Z_range Z_tuple
  have C_may_come : CalF l.prog w K mg base (XR K) 1 "may_come" F_may_come 3 := ok_may_come H12 
  have C_first_ranking : CalF l.prog w K mg base (XR K) 2 "first_ranking" F_first_ranking 2 := ok_first_ranking H13 C_may_come Z_len Z_range Z_tuple
  have C_marked : CalF l.prog w K mg base (XR K) 1 "marked" F_marked 4 := ok_marked H14 
  have C_floors : CalF l.prog w K mg base (XR K) 2 "floors" F_floors 2 := ok_floors H15 C_marked Z_len Z_list Z_range
  have C_row_of : CalF l.prog w K mg base (XR K) 1 "row_of" F_row_of 2 := ok_row_of H16 Z_int Z_zip G_SIGNS
  have C_chance : CalF l.prog w K mg base (XR K) 3 "chance" F_chance 2 := ok_chance H17 C_first_ranking C_floors C_row_of Z_len Z_range
  have C_how_many : CalF l.prog w K mg base (XR K) 2 "how_many" F_how_many 2 := ok_how_many H18 C_may_come Z_range
  have C_rows_of_choice : CalF l.prog w K mg base (XR K) 2 "rows_of_choice" F_rows_of_choice 2 := ok_rows_of_choice H19 C_row_of
  have C_tongues : CalT l.prog w K mg base Pt (("tongues" : Str) ++ ".<locals>." ++ "<lambda>") 3 "tongues" F_tongues 2 := ok_tongues H20 C_first_ranking C_how_many C_rows_of_choice Z_len Z_range Z_sorted Z_tuple cdE (hTB (ct, Pt) (List.mem_singleton.mpr rfl))
  exact ok_law H21 C__law_cell_at C__law_orders C__law_ranking C__law_rows_of C__law_tongue C__law_word C_chance C_how_many C_tongues Z_int Z_len Z_list Z_min Z_range Z_set Z_sum T
end Tg

namespace Tg
open PySem L2
/-! _law_cell_at, _law_mixed -/
def cellAt (ns : List Int) (k : Int) : Int := (ns[k.toNat]?).getD 0
@[simp] theorem cell_at_eq {ns : List Int} {k : Int} (h : 0 ≤ k) : F__law_cell_at [.scr ns, .int k] = .ok (.val (.int (cellAt ns k))) := by
  refine W_eq (runB_W ?_)
  simp only [body__law_cell_at, sSeq_eq, sIf_eq]
  by_cases hk : k < ns.length
  · have hk' : k.toNat < ns.length := by omega
    simp [hk, atI_of h hk, cellAt, List.getElem?_eq_getElem hk']
  · simp [hk, cellAt, List.getElem?_eq_none (show ns.length ≤ k.toNat by omega)]
end Tg

namespace Tg
open PySem L2
/-! rankings: _law_ranking, look_ranking -/
def rng (n : Nat) : List Int := (List.range n).map fun (i : Nat) => (i : Int)
theorem rng_succ (n : Nat) : rng (n + 1) = rng n ++ [(n : Int)] := by simp [rng, List.range_succ]
theorem rng_len (n : Nat) : (rng n).length = n := by simp [rng]
theorem rng_mem {n : Nat} {x : Int} (h : x ∈ rng n) : 0 ≤ x ∧ x < n := by
  simp only [rng, List.mem_map, List.mem_range] at h
  obtain ⟨i, hi, rfl⟩ := h
  omega
theorem mem_rng {n : Nat} {x : Int} (h0 : 0 ≤ x) (h1 : x < n) : x ∈ rng n := by
  simp only [rng, List.mem_map, List.mem_range]
  exact ⟨x.toNat, by omega, by omega⟩
theorem rangeL_rng (n : Int) : rangeL 0 n = (rng n.toNat).map .int := by rw [rangeL_map]; simp [rng]
theorem insI_comm (x y : Int) : ∀ l : List Int, insI x (insI y l) = insI y (insI x l)
  | [] => by
    simp only [insI]
    by_cases h : x ≤ y <;> by_cases h2 : y ≤ x <;> simp [h, h2, insI]
    · omega
    · omega
  | z :: l => by
    by_cases hx : x ≤ z <;> by_cases hy : y ≤ z <;> by_cases h : x ≤ y <;> by_cases h2 : y ≤ x <;> simp [insI, hx, hy, h, h2, insI_comm x y l] <;> omega
theorem sortI_congr {a b : List Int} (h : a.Perm b) : sortI a = sortI b := by
  induction h with
  | nil => rfl
  | cons x _ ih => simp only [sortI, ih]
  | swap x y l => simp only [sortI]; exact insI_comm _ _ _
  | trans _ _ i1 i2 => exact i1.trans i2
theorem insI_head {x : Int} : ∀ {l : List Int}, (∀ y ∈ l, x ≤ y) → insI x l = x :: l
  | [], _ => rfl
  | y :: l, h => by simp [insI, h y List.mem_cons_self]
theorem sortI_sorted : ∀ {l : List Int}, l.Pairwise (· ≤ ·) → sortI l = l
  | [], _ => rfl
  | x :: l, h => by
    rw [List.pairwise_cons] at h
    rw [sortI, sortI_sorted h.2, insI_head h.1]
theorem rng_sorted (n : Nat) : (rng n).Pairwise (· ≤ ·) := by
  induction n with
  | zero => exact List.Pairwise.nil
  | succ n ih =>
    rw [rng_succ, List.pairwise_append]
    refine ⟨ih, List.pairwise_singleton _ _, fun x hx y hy => ?_⟩
    rw [List.mem_singleton.mp hy]
    have := rng_mem hx
    omega
theorem rng_nodup (n : Nat) : (rng n).Nodup := by
  induction n with
  | zero => exact List.nodup_nil
  | succ n ih =>
    rw [rng_succ, List.nodup_append]
    refine ⟨ih, List.nodup_cons.mpr ⟨List.not_mem_nil, List.nodup_nil⟩, fun x hx y hy e => ?_⟩
    rw [List.mem_singleton.mp hy] at e
    have := rng_mem hx
    omega
/-- r has each of n wishes once -/
def IsRk (n : Nat) (r : List Int) : Prop := r.Perm (rng n)
theorem IsRk.len {n : Nat} {r : List Int} (h : IsRk n r) : r.length = n := by rw [h.length_eq, rng_len]
theorem IsRk.mem {n : Nat} {r : List Int} (h : IsRk n r) {x : Int} (hx : x ∈ r) : 0 ≤ x ∧ x < n := rng_mem (h.mem_iff.mp hx)
theorem IsRk.has {n : Nat} {r : List Int} (h : IsRk n r) {x : Int} (h0 : 0 ≤ x) (h1 : x < n) : x ∈ r := h.mem_iff.mpr (mem_rng h0 h1)
theorem IsRk.nodup {n : Nat} {r : List Int} (h : IsRk n r) : r.Nodup := h.nodup_iff.mpr (rng_nodup n)
theorem IsRk.sort {n : Nat} {r : List Int} (h : IsRk n r) : sortI r = rng n := (sortI_congr h).trans (sortI_sorted (rng_sorted n))
theorem insert_perm (l : List Int) (j : Nat) (v : Int) : (l.take j ++ v :: l.drop j).Perm (v :: l) := by
  have h : (l.take j ++ v :: l.drop j).Perm (v :: (l.take j ++ l.drop j)) := List.perm_middle
  rwa [List.take_append_drop] at h
end Tg

namespace Tg
open PySem L2
/-! the other family's _law_mixed, _law_order, _law_ranking -/
theorem mixed2 (c : Int) {p : Int} (h0 : 0 ≤ p) (h1 : p ≤ 1000000) : ∃ i : Int, F__law_mixed [.int c, .int p] = .ok (.val (.int i)) ∧ 0 ≤ i := by
  have hb : ∀ z : Int, (z % 2147483629).natAbs < 2 ^ 200 := fun z => Nat.lt_of_lt_of_le (show _ < 2147483629 by omega) (by decide)
  have hp : p.natAbs < 2 ^ 200 := Nat.lt_of_lt_of_le (show _ < 2147483629 by omega) (by decide)
  obtain ⟨s, e, i, rfl, h⟩ := W_ex' (show W (F__law_mixed [.int c, .int p]) (fun s => ∃ i : Int, s = .val (.int i) ∧ 0 ≤ i) NE by
    refine runB_W ?_
    simp [body__law_mixed, hb, hp]
    exact Int.emod_nonneg _ (by decide))
  exact ⟨i, e, h⟩
theorem erase_perm : ∀ {l : List Int} {i : Nat} {x : Int}, l[i]? = some x → (x :: l.eraseIdx i).Perm l
  | [], i, x, h => by simp at h
  | a :: l, 0, x, h => by
    have e : a = x := by simpa using h
    subst e
    exact List.Perm.refl _
  | a :: l, i + 1, x, h => by
    have ih := erase_perm (l := l) (i := i) (x := x) (by simpa using h)
    exact (List.Perm.swap a x _).trans (List.Perm.cons a ih)
theorem erase_map : ∀ (l : List Int) (i : Nat), (l.map D.int).eraseIdx i = (l.eraseIdx i).map D.int
  | [], i => by simp
  | a :: l, 0 => rfl
  | a :: l, i + 1 => by
    show D.int a :: (l.map D.int).eraseIdx i = D.int a :: (l.eraseIdx i).map D.int
    rw [erase_map l i]
theorem order2 (y : Int) {m : Int} (h0 : 0 ≤ m) (h1 : m ≤ 1000) : ∃ r : List Int, F__law_order [.int y, .int m] = .ok (.val (.tup (r.map .int))) ∧ IsRk m.toNat r := by
  have hr : -1000000 ≤ m ∧ m ≤ 1000000 := by omega
  obtain ⟨s, e, r, rfl, h⟩ := W_ex' (show W (F__law_order [.int y, .int m]) (fun s => ∃ r : List Int, s = .val (.tup (r.map .int)) ∧ IsRk m.toNat r) NE by
    refine runB_W ?_
    simp [body__law_order, hr]
    refine W_bind.2 (W_range (fun i e => ∃ (y : Int) (l f : List Int) (z : Option S), e = [some (.val (.int y)), some (.val (.int m)), some (.own (l.map .int)), some (.own (f.map .int)), z] ∧ (f ++ l).Perm (rng m.toNat) ∧ f.length = i) ⟨y, rng m.toNat, [], none, by rw [rangeL_rng]; rfl, List.Perm.refl _, rfl⟩ ?_ ?_)
    · rintro i e hi ⟨y, l, f, z, rfl, hp, hf⟩
      have hl := hp.length_eq
      rw [List.length_append, rng_len] at hl
      have hl0 : 0 < l.length := by omega
      have hm := emod_lt' (x := y) hl0
      have hl0' : (0 : Int) < l.length := by omega
      have hix := ixN_of (n := l.length) hm.1 hm.2
      obtain ⟨x, hx⟩ : ∃ x, l[(y % l.length).toNat]? = some x := ⟨_, List.getElem?_eq_getElem (by omega)⟩
      have hz : f.length ≤ 65536 ∧ l.length ≤ 65536 := by omega
      simp [sAppPop, hl0, hl0', hix, hx, hz]
      refine ⟨y / 6, l.eraseIdx (y % l.length).toNat, f ++ [x], ⟨rfl, ?_, by simp⟩, ?_, ?_⟩
      · exact erase_map _ _
      · rw [List.append_assoc]
        exact (List.Perm.append_left f (erase_perm hx)).trans hp
      · simp [hf]
    · rintro e ⟨y, l, f, z, rfl, hp, hf⟩
      have hl := hp.length_eq
      rw [List.length_append, rng_len] at hl
      have : l = [] := List.eq_nil_of_length_eq_zero (by omega)
      subst this
      rw [List.append_nil] at hp
      simp
      exact ⟨f, rfl, hp⟩)
  exact ⟨r, e, h⟩
theorem ranking2 (c : Int) {m : Int} (h0 : 0 ≤ m) (h1 : m ≤ 1000) : ∃ r : List Int, F__law_ranking [.int c, .int m] = .ok (.val (.tup (r.map .int))) ∧ IsRk m.toNat r := by
  by_cases hc : c % 2 = 1
  · obtain ⟨r, e, h⟩ := order2 (c / 2) h0 h1
    exact ⟨r, W_eq (runB_W (by simp [body__law_ranking, hc, e])), h⟩
  · obtain ⟨i, e1, _⟩ := mixed2 c (p := 3) (by decide) (by decide)
    obtain ⟨r, e, h⟩ := order2 i h0 h1
    exact ⟨r, W_eq (runB_W (by simp [body__law_ranking, hc, e, e1])), h⟩
end Tg

namespace Tg
open PySem L2
/-! words of sayings, their marks; the best ones -/
abbrev tnum (w : List Int) : D := .tup (w.map .int)
@[simp] theorem flatL_tnum (xs : List (List Int)) : D.flatL (xs.map tnum) = true := flatL_map (fun w => by simp [tnum]) xs
@[simp] theorem flatL_tnum' (xs : List (List Int)) : D.flatL (xs.map fun w => D.tup (w.map .int)) = true := flatL_tnum xs
def words (ws : List (List Int)) : D := .tup (ws.map tnum)
/-- which marks beat which -/
def beatsB (a b : List Int) : List Int → Bool
  | [] => false
  | w :: r => if nth a w = nth b w then beatsB a b r else decide (nth a w < nth b w)
def say (ws : List (List Int)) (k : Int) : List Int := (ws[k.toNat]?).getD []
theorem say_at {ws : List (List Int)} {k : Int} (h0 : 0 ≤ k) (h1 : k < ws.length) : atI ws k = some (say ws k) := by
  rw [atI_of h0 h1]
  unfold say
  rw [List.getElem?_eq_getElem (by omega)]
  rfl
theorem say_mem {ws : List (List Int)} {k : Int} (h0 : 0 ≤ k) (h1 : k < ws.length) : say ws k ∈ ws := by
  unfold say
  rw [List.getElem?_eq_getElem (by omega)]
  exact List.getElem_mem _
theorem mem_say {ws : List (List Int)} {w : List Int} (h : w ∈ ws) : ∃ k : Int, 0 ≤ k ∧ k < ws.length ∧ say ws k = w := by
  obtain ⟨i, hi, e⟩ := List.mem_iff_getElem.mp h
  refine ⟨(i : Int), by omega, by omega, ?_⟩
  unfold say
  rw [show ((i : Int)).toNat = i by omega, List.getElem?_eq_getElem hi, e]
  rfl
def minB (ws : List (List Int)) (p : List Int) (k : Int) : Bool := !ws.any fun o => beatsB o (say ws k) p
def bestL (ws : List (List Int)) (p : List Int) : List Int := (rng ws.length).filter (minB ws p)
theorem minB_iff {ws : List (List Int)} {p : List Int} {k : Int} : minB ws p k = true ↔ ∀ o ∈ ws, beatsB o (say ws k) p = false := by
  simp [minB]
theorem mem_bestL {ws : List (List Int)} {p : List Int} {k : Int} : k ∈ bestL ws p ↔ (0 ≤ k ∧ k < ws.length) ∧ minB ws p k = true := by
  unfold bestL
  rw [List.mem_filter]
  exact ⟨fun ⟨h1, h2⟩ => ⟨rng_mem h1, h2⟩, fun ⟨h1, h2⟩ => ⟨mem_rng h1.1 h1.2, h2⟩⟩
end Tg

namespace Tg
open PySem L2
/-! the other family's _law_marks, _law_word -/
theorem marks2 (c : Int) {p m k : Int} (hp0 : 0 ≤ p) (hp1 : p ≤ 50000) (h0 : 0 ≤ m) (h1 : m ≤ 1000) (hk0 : 0 < k) (hk1 : k.natAbs < 2 ^ 200) : ∃ ms : List Int, F__law_marks [.int c, .int p, .int m, .int k] = .ok (.val (tnum ms)) ∧ ms.length = m.toNat := by
  have hr : -1000000 ≤ m ∧ m ≤ 1000000 := by omega
  obtain ⟨s, e, ms, rfl, h⟩ := W_ex' (show W (F__law_marks [.int c, .int p, .int m, .int k]) (fun s => ∃ ms : List Int, s = .val (tnum ms) ∧ ms.length = m.toNat) NE by
    refine runB_W ?_
    simp [body__law_marks, hr]
    refine W_bind.2 (W_range (fun i e => ∃ (y : Int) (ms : List Int) (x : Option S), e = [some (.val (.int c)), some (.val (.int p)), some (.val (.int m)), some (.val (.int k)), some (.val (.int y)), some (.own (ms.map .int)), x] ∧ ms.length = i) ⟨_, [], none, rfl, rfl⟩ ?_ ?_)
    · rintro i e hi ⟨y, ms, x, rfl, hm⟩
      by_cases c1 : c % 4 < 2
      · simp [c1, hk0, hk1]
        exact ⟨by omega, _, ms ++ [y % k], ⟨rfl, by simp⟩, by simp [hm]⟩
      · obtain ⟨z, ez, hz⟩ := mixed2 c (p := 10 * p + i) (by omega) (by omega)
        have hb1 : (10 : Int).natAbs < 2 ^ 200 := by decide
        have hb2 : p.natAbs < 2 ^ 200 := Nat.lt_of_lt_of_le (show _ < 2147483629 by omega) (by decide)
        simp [c1, hk0, hk1, ez, hb1, hb2]
        exact ⟨by omega, y, ms ++ [z % k], ⟨rfl, by simp⟩, by simp [hm]⟩
    · rintro e ⟨y, ms, x, rfl, hm⟩
      simp
      exact ⟨ms, rfl, hm⟩)
  exact ⟨ms, e, h⟩
theorem size4 (y : Int) : ∃ k : Int, atI [D.int 2, D.int 3, D.int 5, D.int (10 ^ 39)] (y % 4) = some (.int k) ∧ 0 < k ∧ k.natAbs < 2 ^ 200 := by
  have h : y % 4 = 0 ∨ y % 4 = 1 ∨ y % 4 = 2 ∨ y % 4 = 3 := by omega
  rcases h with h | h | h | h <;> rw [h]
  · exact ⟨2, rfl, by decide, by decide⟩
  · exact ⟨3, rfl, by decide, by decide⟩
  · exact ⟨5, rfl, by decide, by decide⟩
  · exact ⟨10 ^ 39, rfl, by decide, by decide⟩
theorem word2 (ns : List Int) {at' most m : Int} (ha : 0 ≤ at' ∧ at' ≤ 1000) (hmo : 1 ≤ most ∧ most ≤ 100) (h0 : 1 ≤ m) (h1 : m ≤ 1000) : ∃ ws : List (List Int), F__law_word [.scr ns, .int at', .int most, .int m] = .ok (.val (words ws)) ∧ 1 ≤ ws.length ∧ (ws.length : Int) ≤ most ∧ ∀ w ∈ ws, w.length = m.toNat := by
  have hp : (0 : Int) ≤ 39 ∧ (39 : Int) ≤ 1000 ∧ (10 : Int).natAbs < 2 ^ 64 := by decide
  obtain ⟨s, e, ws, rfl, h⟩ := W_ex' (show W (F__law_word [.scr ns, .int at', .int most, .int m]) (fun s => ∃ ws : List (List Int), s = .val (words ws) ∧ 1 ≤ ws.length ∧ (ws.length : Int) ≤ most ∧ ∀ w ∈ ws, w.length = m.toNat) NE by
    refine runB_W ?_
    have c1 := cell_at_eq (ns := ns) ha.1
    obtain ⟨k, hk, hk0, hk1⟩ := size4 (cellAt ns at')
    have hmp : 0 < most := by omega
    have hN := emod_lt' (x := cellAt ns at' / 4) (n := most.toNat) (by omega)
    rw [show ((most.toNat : Nat) : Int) = most by omega] at hN
    generalize hNN : 1 + cellAt ns at' / 4 % most = N
    have hr : -1000000 ≤ N ∧ N ≤ 1000000 := by omega
    simp [-Int.reducePow, body__law_word, c1, hp, hk, hmp, hNN, hr]
    refine W_bind.2 (W_range (fun i e => ∃ (ws : List (List Int)) (x y : Option S), e = [some (.val (.scr ns)), some (.val (.int at')), some (.val (.int most)), some (.val (.int m)), some (.val (.int (cellAt ns at'))), some (.val (.int k)), some (.own (ws.map tnum)), x, y] ∧ ws.length = i ∧ ∀ w ∈ ws, w.length = m.toNat) ⟨[], none, none, rfl, rfl, fun w h => (by cases h)⟩ ?_ ?_)
    · rintro i e hi ⟨ws, x, y, rfl, hl, hw⟩
      have c2 := cell_at_eq (ns := ns) (k := at' + 1 + i) (by omega)
      by_cases t : cellAt ns (at' + 1 + i) % 5 = 1 ∧ 0 < i
      · have hq := emod_lt' (x := cellAt ns (at' + 1 + i) / 5) (n := i) t.2
        obtain ⟨w, ew, hwm⟩ := atI_some (xs := ws) (i := cellAt ns (at' + 1 + i) / 5 % (i : Int)) (by omega) (by omega)
        have ti : (0 : Int) < (i : Int) := by omega
        simp [c2, t.1, t.2, ti, ew]
        refine ⟨by omega, ws ++ [w], by simp, by simp [hl], fun v hv => ?_⟩
        rcases List.mem_append.mp hv with z | z
        · exact hw v z
        · rw [List.mem_singleton.mp z]; exact hw w hwm
      · obtain ⟨ms, em, hm⟩ := marks2 (cellAt ns (at' + 1 + i) / 5) (p := i) (m := m) (k := k) (by omega) (by omega) (by omega) h1 hk0 hk1
        have fin : ws.length ≤ 65536 ∧ ∃ ws' : List (List Int), (ws.map tnum ++ [tnum ms]) = ws'.map tnum ∧ ws'.length = i + 1 ∧ ∀ w ∈ ws', w.length = m.toNat := ⟨by omega, ws ++ [ms], by simp, by simp [hl], fun v hv => by
          rcases List.mem_append.mp hv with z | z
          · exact hw v z
          · rw [List.mem_singleton.mp z]; exact hm⟩
        by_cases t1 : cellAt ns (at' + 1 + i) % 5 = 1
        · have t2 : ¬ 0 < i := fun z => t ⟨t1, z⟩
          simp [c2, t1, t2, em]
          exact fin
        · simp [c2, t1, em]
          exact fin
    · rintro e ⟨ws, x, y, rfl, hl, hw⟩
      simp
      exact ⟨ws, rfl, by omega, by omega, hw⟩)
  exact ⟨ws, e, h⟩
end Tg

namespace Tg
open PySem L2
/-! rows as texts; fits -/
def IsRow (n : Nat) (row : List Nat) : Prop := row.length = n ∧ ∀ c ∈ row, c = 87 ∨ c = 101 ∨ c = 76
def sg (row : List Nat) (w : Int) : Nat := (row[w.toNat]?).getD 101
theorem sg_at {row : List Nat} {w : Int} (h0 : 0 ≤ w) (h1 : w < row.length) : atI row w = some (sg row w) := by
  rw [atI_of h0 h1]
  unfold sg
  rw [List.getElem?_eq_getElem (by omega)]
  rfl
theorem IsRow.sg {n : Nat} {row : List Nat} (h : IsRow n row) (w : Int) : sg row w = 87 ∨ sg row w = 101 ∨ sg row w = 76 := by
  unfold Tg.sg
  by_cases hw : w.toNat < row.length
  · rw [List.getElem?_eq_getElem hw]
    exact h.2 _ (List.getElem_mem hw)
  · rw [List.getElem?_eq_none (by omega)]
    exact .inr (.inl rfl)
theorem IsRow.lt {n : Nat} {row : List Nat} (h : IsRow n row) (w : Int) : Tg.sg row w < 0x110000 := by
  rcases h.sg w with e | e | e <;> rw [e] <;> decide
theorem IsRow.sgs {n : Nat} {row : List Nat} (h : IsRow n row) : Sg row := fun c hc => by
  rcases h.2 c hc with e | e | e <;> rw [e] <;> decide
theorem oEq_c {c d : Nat} (hc : c < 0x110000) (hd : d < 0x110000) : oEq (.str [c]) (.str [d]) = .ok (.val (.bl (decide (c = d)))) := by
  rw [oEq_s (fun x hx => by rw [List.mem_singleton.mp hx]; exact hc) (fun x hx => by rw [List.mem_singleton.mp hx]; exact hd)]
  simp
theorem oNe_c {c d : Nat} (hc : c < 0x110000) (hd : d < 0x110000) : oNe (.str [c]) (.str [d]) = .ok (.val (.bl (decide (c ≠ d)))) := by
  rw [oNe_s (fun x hx => by rw [List.mem_singleton.mp hx]; exact hc) (fun x hx => by rw [List.mem_singleton.mp hx]; exact hd)]
  simp
def fitsB (row : List Nat) : List Int → Bool
  | [] => true
  | w :: r => if sg row w = 101 then fitsB row r else decide (sg row w = 87)
/-- each L stands behind some W -/
theorem fitsB_iff {n : Nat} {row : List Nat} (hr : IsRow n row) : ∀ r : List Int, fitsB row r = true ↔ ∀ l w m, r = l ++ w :: m → sg row w = 76 → ∃ o ∈ l, sg row o = 87
  | [] => ⟨fun _ l w m e => (by cases l <;> cases e), fun _ => rfl⟩
  | x :: r => by
    have ih := fitsB_iff hr r
    rcases hr.sg x with hx | hx | hx
    · constructor
      · intro _ l w m e hw
        cases l with
        | nil => cases e; omega
        | cons y l => cases e; exact ⟨x, List.mem_cons_self, hx⟩
      · intro _
        simp [fitsB, hx]
    · rw [fitsB, if_pos hx, ih]
      constructor
      · intro q l w m e hw
        cases l with
        | nil => cases e; omega
        | cons y l =>
          cases e
          obtain ⟨o, ho, h2⟩ := q l w m rfl hw
          exact ⟨o, List.mem_cons_of_mem _ ho, h2⟩
      · intro q l w m e hw
        obtain ⟨o, ho, h2⟩ := q (x :: l) w m (by rw [e]; rfl) hw
        rcases List.mem_cons.mp ho with h | h
        · rw [h] at h2; omega
        · exact ⟨o, h, h2⟩
    · constructor
      · intro q
        simp [fitsB, hx] at q
      · intro q
        obtain ⟨o, ho, _⟩ := q [] x r rfl hx
        cases ho
end Tg

namespace Tg
open PySem L2
/-! row_of -/
def sgn (a b : Int) : Nat := if a < b then 87 else if b < a then 76 else 101
def rowOf (a b : List Int) : List Nat := List.zipWith sgn a b
theorem zip_ints : ∀ a b : List Int, zipD (a.map .int) (b.map .int) = (a.zip b).map fun p => D.tup [.int p.1, .int p.2]
  | [], _ => by simp [zipD]
  | _ :: _, [] => by simp [zipD]
  | x :: a, y :: b => by simp [zipD, zip_ints a b]
theorem sign_at (x y : Int) : atI [87, 101, 76] ((if y ≤ x then 1 else 0) + if y < x then 1 else 0) = some (sgn x y) := by
  unfold sgn
  by_cases h1 : x < y
  · rw [if_neg (by omega), if_neg (by omega), if_pos h1]; rfl
  · by_cases h2 : y < x
    · rw [if_pos (by omega), if_pos h2, if_neg h1, if_pos h2]; rfl
    · rw [if_pos (by omega), if_neg h2, if_neg h1, if_neg h2]; rfl
theorem rowOf_len {a b : List Int} (h : a.length = b.length) : (rowOf a b).length = a.length := by simp [rowOf, h]
theorem rowOf_get {a b : List Int} {i : Nat} {x y : Int} (ha : a[i]? = some x) (hb : b[i]? = some y) : (rowOf a b)[i]? = some (sgn x y) := by
  simp [rowOf, List.getElem?_zipWith, ha, hb]
theorem row_of_eq {a b : List Int} (h : a.length = b.length) (hl : a.length ≤ 1000) : F_row_of [tnum a, tnum b] = .ok (.val (.str (rowOf a b))) := by
  refine W_eq (runB_W ?_)
  simp [body_row_of, tnum, zip_ints]
  refine W_bind.2 (W_for (fun i e => ∃ (x y : Option S), e = [some (.val (tnum a)), some (.val (tnum b)), some (.val (.str ((rowOf a b).take i))), x, y]) ⟨_, _, rfl⟩ ?_ ?_)
  · rintro i d e hd ⟨x, y, rfl⟩
    rw [List.getElem?_map] at hd
    cases hz : (a.zip b)[i]? with
    | none => rw [hz] at hd; cases hd
    | some p =>
      rw [hz] at hd
      cases hd
      obtain ⟨h1, h2⟩ := List.getElem?_zip_eq_some.mp hz
      have hg := rowOf_get h1 h2
      have hi := (List.getElem?_eq_some_iff.mp h1).1
      have hr := rowOf_len h
      have ht : (rowOf a b).take (i + 1) = (rowOf a b).take i ++ [sgn p.1 p.2] := by rw [List.take_add_one, hg]; rfl
      simp [sign_at, ht]
      omega
  · rintro e ⟨x, y, rfl⟩
    have hr := rowOf_len h
    simp
    rw [← h, Nat.min_self, List.take_of_length_le (by omega)]
end Tg

namespace Tg
open PySem L2
theorem sg_rowOf {n : Nat} {a b : List Int} (ha : a.length = n) (hb : b.length = n) {w : Int} (h0 : 0 ≤ w) (h1 : w < n) : sg (rowOf a b) w = sgn (nth a w) (nth b w) := by
  have e1 : a[w.toNat]? = some (nth a w) := by unfold nth; rw [List.getElem?_eq_getElem (by omega)]; rfl
  have e2 : b[w.toNat]? = some (nth b w) := by unfold nth; rw [List.getElem?_eq_getElem (by omega)]; rfl
  unfold sg
  rw [rowOf_get e1 e2]
  rfl
theorem rowOf_row {n : Nat} {a b : List Int} (ha : a.length = n) (hb : b.length = n) : IsRow n (rowOf a b) := by
  refine ⟨by rw [rowOf_len (ha.trans hb.symm), ha], fun c hc => ?_⟩
  rw [rowOf] at hc
  obtain ⟨i, hi, e⟩ := List.mem_iff_getElem.mp hc
  rw [List.getElem_zipWith] at e
  rw [← e]
  unfold sgn
  split
  · exact .inl rfl
  · split
    · exact .inr (.inr rfl)
    · exact .inr (.inl rfl)
theorem fits_beats {n : Nat} {a b : List Int} (ha : a.length = n) (hb : b.length = n) : ∀ r : List Int, (∀ w ∈ r, 0 ≤ w ∧ w < n) → fitsB (rowOf a b) r = !beatsB b a r
  | [], _ => rfl
  | w :: r, h => by
    have hw := h w List.mem_cons_self
    have ih := fits_beats ha hb r fun x hx => h x (List.mem_cons_of_mem _ hx)
    rw [fitsB, beatsB, sg_rowOf ha hb hw.1 hw.2]
    unfold sgn
    by_cases h1 : nth a w < nth b w
    · have h2 : ¬ nth b w = nth a w := by omega
      have h3 : ¬ nth b w < nth a w := by omega
      simp [h1, h2, h3]
    · by_cases h2 : nth b w < nth a w
      · have h3 : ¬ nth b w = nth a w := by omega
        simp [h1, h2, h3]
      · have h3 : nth b w = nth a w := by omega
        simp [h1, h2, h3, ih]
end Tg

namespace Tg
open PySem L2
def eqOn (a b p : List Int) : Bool := p.all fun w => nth a w == nth b w
theorem beats_snoc (a b : List Int) (w : Int) : ∀ p : List Int, beatsB a b (p ++ [w]) = (beatsB a b p || (eqOn a b p && decide (nth a w < nth b w)))
  | [] => by
    simp only [List.nil_append, beatsB, eqOn, List.all_nil, Bool.true_and, Bool.false_or]
    by_cases h : nth a w = nth b w
    · simp [h]
    · simp [h]
  | x :: p => by
    simp only [List.cons_append, beatsB, eqOn, List.all_cons]
    by_cases h : nth a x = nth b x
    · simp [h, beats_snoc a b w p, eqOn]
    · simp [h]
theorem beats_tri (a b : List Int) : ∀ p : List Int, beatsB a b p = true ∨ beatsB b a p = true ∨ eqOn a b p = true
  | [] => .inr (.inr rfl)
  | x :: p => by
    by_cases h : nth a x = nth b x
    · have ih := beats_tri a b p
      simpa [beatsB, eqOn, h] using ih
    · have h' : ¬ nth b x = nth a x := fun e => h e.symm
      simp [beatsB, eqOn, h, h']
      omega
theorem beats_eqOn {a b z : List Int} : ∀ {p : List Int}, eqOn a b p = true → beatsB z a p = beatsB z b p
  | [], _ => rfl
  | x :: p, h => by
    simp only [eqOn, List.all_cons, Bool.and_eq_true, beq_iff_eq] at h
    simp [beatsB, h.1, beats_eqOn (p := p) h.2]
theorem best_nil (ws : List (List Int)) : bestL ws [] = rng ws.length := by
  unfold bestL
  rw [List.filter_eq_self]
  intro k _
  rw [minB_iff]
  exact fun _ _ => rfl
/-- the least mark at w of those that are left -/
theorem best_snoc {ws : List (List Int)} {p : List Int} {w m : Int} (hm : ∀ k ∈ bestL ws p, m ≤ nth (say ws k) w) (hx : ∃ k ∈ bestL ws p, nth (say ws k) w = m) :
    bestL ws (p ++ [w]) = (bestL ws p).filter (fun k => decide (nth (say ws k) w = m)) := by
  unfold bestL
  rw [List.filter_filter]
  apply List.filter_congr
  intro k hk
  have hk' := rng_mem hk
  rw [Bool.eq_iff_iff, Bool.and_eq_true, minB_iff, minB_iff, decide_eq_true_eq]
  constructor
  · intro h
    have h1 : ∀ o ∈ ws, beatsB o (say ws k) p = false := fun o ho => by
      have := h o ho
      rw [beats_snoc, Bool.or_eq_false_iff] at this
      exact this.1
    refine ⟨?_, h1⟩
    obtain ⟨j, hj, e⟩ := hx
    have hj' := mem_bestL.mp hj
    have hkb : k ∈ bestL ws p := mem_bestL.mpr ⟨hk', minB_iff.mpr h1⟩
    have hle := hm k hkb
    have hjm := say_mem hj'.1.1 hj'.1.2
    have hkm := say_mem hk'.1 hk'.2
    have t := h _ hjm
    rw [beats_snoc, Bool.or_eq_false_iff] at t
    have eq : eqOn (say ws j) (say ws k) p = true := by
      rcases beats_tri (say ws j) (say ws k) p with q | q | q
      · rw [h1 _ hjm] at q; cases q
      · rw [minB_iff.mp hj'.2 _ hkm] at q; cases q
      · exact q
    rw [eq, Bool.true_and] at t
    have t2 := of_decide_eq_false t.2
    omega
  · rintro ⟨h2, h1⟩ o ho
    rw [beats_snoc, h1 o ho, Bool.false_or, Bool.and_eq_false_iff]
    by_cases q : eqOn o (say ws k) p = true
    · right
      obtain ⟨j, j0, j1, rfl⟩ := mem_say ho
      have hj : j ∈ bestL ws p := mem_bestL.mpr ⟨⟨j0, j1⟩, minB_iff.mpr fun z hz => by rw [beats_eqOn q]; exact h1 z hz⟩
      have := hm j hj
      rw [decide_eq_false_iff_not]
      omega
    · left
      exact Bool.eq_false_iff.mpr q
theorem best_ne {ws : List (List Int)} (h : 0 < ws.length) : ∀ p : List Int, ∃ k, k ∈ bestL ws p := by
  intro p
  have go : ∀ (r q : List Int), (∃ k, k ∈ bestL ws q) → ∃ k, k ∈ bestL ws (q ++ r) := by
    intro r
    induction r with
    | nil => intro q hq; rw [List.append_nil]; exact hq
    | cons w r ih =>
      intro q ⟨k, hk⟩
      have e : q ++ w :: r = (q ++ [w]) ++ r := by simp
      rw [e]
      apply ih
      cases hb : bestL ws q with
      | nil => rw [hb] at hk; cases hk
      | cons x xs =>
        have hle := minI_le (xs.map fun k => nth (say ws k) w) (nth (say ws x) w)
        have hme := minI_mem (xs.map fun k => nth (say ws k) w) (nth (say ws x) w)
        have hx : ∃ k ∈ bestL ws q, nth (say ws k) w = minI (nth (say ws x) w) (xs.map fun k => nth (say ws k) w) := by
          rw [hb]
          rcases List.mem_cons.mp hme with h | h
          · exact ⟨x, List.mem_cons_self, h.symm⟩
          · obtain ⟨k, hk, e⟩ := List.mem_map.mp h
            exact ⟨k, List.mem_cons_of_mem _ hk, e⟩
        have hs := best_snoc (m := minI (nth (say ws x) w) (xs.map fun k => nth (say ws k) w)) (fun k hk => by
          rw [hb] at hk
          rcases List.mem_cons.mp hk with h | h
          · rw [h]; exact hle.1
          · exact hle.2 _ (List.mem_map_of_mem h)) hx
        obtain ⟨k, hk, e⟩ := hx
        exact ⟨k, by rw [hs, List.mem_filter]; exact ⟨hk, decide_eq_true e⟩⟩
  have := go p [] (by
    rw [best_nil]
    exact ⟨0, mem_rng (by omega) (by omega)⟩)
  simpa using this
end Tg

namespace Tg
open PySem L2
theorem law_beats_eq {n : Nat} {r a b : List Int} (h : IsRk n r) (ha : a.length = n) (hb : b.length = n) : F__law_beats [.tup (r.map .int), tnum a, tnum b] = .ok (.val (.bl (beatsB a b r))) := by
  refine W_eq (runB_W ?_)
  simp [body__law_beats, tnum]
  refine W_bind.2 (W_for (fun i e => (∃ x : Option S, e = [some (.val (.tup (r.map .int))), some (.val (tnum a)), some (.val (tnum b)), x]) ∧ beatsB a b r = beatsB a b (r.drop i)) ⟨⟨_, rfl⟩, rfl⟩ ?_ ?_)
  · rintro i d e hd ⟨⟨x, rfl⟩, hi⟩
    rw [List.getElem?_map] at hd
    cases hz : r[i]? with
    | none => rw [hz] at hd; cases hd
    | some w =>
      rw [hz] at hd
      cases hd
      obtain ⟨hlt, hw⟩ := List.getElem?_eq_some_iff.mp hz
      have hm := h.mem (List.mem_of_getElem? hz)
      have e1 := nth_at (a := a) hm.1 (by omega)
      have e2 := nth_at (a := b) hm.1 (by omega)
      have hdr : r.drop i = w :: r.drop (i + 1) := by rw [List.drop_eq_getElem_cons hlt, hw]
      rw [hdr] at hi
      by_cases c : nth a w = nth b w
      · simp [tnum, e1, e2, c]
        rw [hi, beatsB, if_pos c]
      · simp [tnum, e1, e2, c]
        rw [hi, beatsB, if_neg c]
  · rintro e ⟨⟨x, rfl⟩, hi⟩
    simp at hi
    simp [hi, beatsB]
end Tg

namespace Tg
open PySem L2
def fitAll (rows : List (List Nat)) (r : List Int) : Bool := rows.all fun row => fitsB row r
end Tg

namespace Tg
open PySem L2
/-! all rankings, in order: one wish longer a step -/
def ext1 (n : Nat) (p : List Int) : List (List Int) := ((rng n).filter fun w => !decide (w ∈ p)).map fun w => p ++ [w]
def allR (n : Nat) : Nat → List (List Int)
  | 0 => [[]]
  | k + 1 => (allR n k).flatMap (ext1 n)
theorem mem_ext1 {n : Nat} {p q : List Int} : q ∈ ext1 n p ↔ ∃ w : Int, (0 ≤ w ∧ w < n) ∧ w ∉ p ∧ q = p ++ [w] := by
  unfold ext1
  rw [List.mem_map]
  constructor
  · rintro ⟨w, hw, rfl⟩
    rw [List.mem_filter] at hw
    exact ⟨w, rng_mem hw.1, by simpa using hw.2, rfl⟩
  · rintro ⟨w, hw, hn, rfl⟩
    exact ⟨w, List.mem_filter.mpr ⟨mem_rng hw.1 hw.2, by simpa using hn⟩, rfl⟩
theorem allR_mem {n : Nat} : ∀ {k : Nat} {p : List Int}, p ∈ allR n k → p.length = k ∧ p.Nodup ∧ ∀ x ∈ p, 0 ≤ x ∧ x < n
  | 0, p, h => by
    rw [List.mem_singleton.mp h]
    exact ⟨rfl, List.nodup_nil, fun x hx => by cases hx⟩
  | k + 1, p, h => by
    obtain ⟨q, hq, hp⟩ := List.mem_flatMap.mp h
    obtain ⟨w, hw, hn, rfl⟩ := mem_ext1.mp hp
    obtain ⟨h1, h2, h3⟩ := allR_mem hq
    refine ⟨by simp [h1], ?_, fun x hx => ?_⟩
    · rw [List.nodup_append]
      exact ⟨h2, List.nodup_cons.mpr ⟨List.not_mem_nil, List.nodup_nil⟩, fun x hx y hy e => hn (by rw [List.mem_singleton.mp hy] at e; rw [← e]; exact hx)⟩
    · rcases List.mem_append.mp hx with hx | hx
      · exact h3 x hx
      · rw [List.mem_singleton.mp hx]; exact hw
theorem rk_of {n : Nat} {p : List Int} (h1 : p.length = n) (h2 : p.Nodup) (h3 : ∀ x ∈ p, 0 ≤ x ∧ x < n) : IsRk n p := by
  unfold IsRk
  rw [List.perm_ext_iff_of_nodup h2 (rng_nodup n)]
  refine fun a => ⟨fun h => mem_rng (h3 a h).1 (h3 a h).2, fun h => ?_⟩
  by_cases ha : a ∈ p
  · exact ha
  · have nd : (a :: p).Nodup := List.nodup_cons.mpr ⟨ha, h2⟩
    have sb : (a :: p) ⊆ rng n := fun x hx => by
      rcases List.mem_cons.mp hx with e | hx
      · rw [e]; exact h
      · exact mem_rng (h3 x hx).1 (h3 x hx).2
    have := nd.length_le_of_subset sb
    rw [rng_len, List.length_cons] at this
    omega
theorem allR_rk {n : Nat} {p : List Int} (h : p ∈ allR n n) : IsRk n p := by
  obtain ⟨h1, h2, h3⟩ := allR_mem h
  exact rk_of h1 h2 h3
theorem lex_snoc {x y : Int} : ∀ p : List Int, HT.lexLt (p ++ [x]) (p ++ [y]) = decide (x < y)
  | [] => by
    show (if x = y then HT.lexLt [] [] else decide (x < y)) = _
    by_cases h : x = y
    · rw [if_pos h, h]; simp [HT.lexLt]
    · rw [if_neg h]
  | z :: p => by
    show (if z = z then HT.lexLt (p ++ [x]) (p ++ [y]) else _) = _
    rw [if_pos rfl, lex_snoc p]
theorem lex_app {x y : Int} : ∀ {p q : List Int}, p.length = q.length → HT.lexLt p q = true → HT.lexLt (p ++ [x]) (q ++ [y]) = true
  | [], [], _, h => by cases h
  | a :: p, b :: q, hl, h => by
    have h' : (if a = b then HT.lexLt p q else decide (a < b)) = true := h
    show (if a = b then HT.lexLt (p ++ [x]) (q ++ [y]) else decide (a < b)) = true
    by_cases e : a = b
    · rw [if_pos e] at h' ⊢
      exact lex_app (by simpa using hl) h'
    · rw [if_neg e] at h' ⊢
      exact h'
theorem rng_lt (n : Nat) : (rng n).Pairwise (· < ·) := by
  induction n with
  | zero => exact List.Pairwise.nil
  | succ n ih =>
    rw [rng_succ, List.pairwise_append]
    refine ⟨ih, List.pairwise_singleton _ _, fun x hx y hy => ?_⟩
    rw [List.mem_singleton.mp hy]
    exact (rng_mem hx).2
theorem allR_lex (n : Nat) : ∀ k, (allR n k).Pairwise fun p q => HT.lexLt p q = true
  | 0 => List.pairwise_singleton _ _
  | k + 1 => by
    show ((allR n k).flatMap (ext1 n)).Pairwise _
    rw [List.pairwise_flatMap]
    refine ⟨fun p _ => ?_, ?_⟩
    · unfold ext1
      rw [List.pairwise_map]
      refine ((rng_lt n).filter _).imp fun {x y} h => ?_
      rw [lex_snoc]
      exact decide_eq_true h
    · refine (allR_lex n k).imp_of_mem fun {p q} hp hq h a ha b hb => ?_
      obtain ⟨x, _, _, rfl⟩ := mem_ext1.mp ha
      obtain ⟨y, _, _, rfl⟩ := mem_ext1.mp hb
      exact lex_app (by rw [(allR_mem hp).1, (allR_mem hq).1]) h
theorem allR_len : (allR 1 1).length = 1 ∧ (allR 2 2).length = 2 ∧ (allR 3 3).length = 6 ∧ (allR 4 4).length = 24 ∧ (allR 5 5).length = 120 ∧ (allR 6 6).length = 720 := by decide +kernel
end Tg

namespace Tg
open PySem L2
/-! how many rankings fit, in plain words -/
def mayB (rows : List (List Nat)) (p : List Int) (w : Int) : Bool := rows.all fun row => !decide (sg row w = 76) || p.any fun v => decide (sg row v = 87)
theorem fitsB_snoc {n : Nat} {row : List Nat} (hr : IsRow n row) (w : Int) : ∀ p : List Int, fitsB row (p ++ [w]) = (fitsB row p && (!decide (sg row w = 76) || p.any fun v => decide (sg row v = 87)))
  | [] => by
    rw [List.nil_append]
    rcases hr.sg w with e | e | e <;> simp [fitsB, e]
  | x :: p => by
    have ih := fitsB_snoc hr w p
    rw [List.cons_append, fitsB, fitsB, List.any_cons]
    rcases hr.sg x with e | e | e
    · rw [e]; simp
    · rw [e]; simp [ih]
    · rw [e]; simp
theorem fitAll_snoc {n : Nat} {rows : List (List Nat)} (hr : ∀ row ∈ rows, IsRow n row) (p : List Int) (w : Int) : fitAll rows (p ++ [w]) = (fitAll rows p && mayB rows p w) := by
  unfold fitAll mayB
  rw [Bool.eq_iff_iff, Bool.and_eq_true, List.all_eq_true, List.all_eq_true, List.all_eq_true]
  constructor
  · intro h
    have h2 : ∀ row ∈ rows, _ := fun row hm => by
      have := h row hm
      rw [fitsB_snoc (hr row hm), Bool.and_eq_true] at this
      exact this
    exact ⟨fun row hm => (h2 row hm).1, fun row hm => (h2 row hm).2⟩
  · rintro ⟨h1, h2⟩ row hm
    rw [fitsB_snoc (hr row hm), Bool.and_eq_true]
    exact ⟨h1 row hm, h2 row hm⟩
theorem mayB_congr {rows : List (List Nat)} {p q : List Int} (h : ∀ v, v ∈ p ↔ v ∈ q) (w : Int) : mayB rows p w = mayB rows q w := by
  have e : ∀ f : Int → Bool, p.any f = q.any f := fun f => by
    rw [Bool.eq_iff_iff, List.any_eq_true, List.any_eq_true]
    exact ⟨fun ⟨x, hx, z⟩ => ⟨x, (h x).mp hx, z⟩, fun ⟨x, hx, z⟩ => ⟨x, (h x).mpr hx, z⟩⟩
  unfold mayB
  simp only [e]
/-! sets as bits -/
def mask (p : List Int) : Nat := p.foldl (fun m w => m ||| 2 ^ w.toNat) 0
theorem mask_snoc (p : List Int) (w : Int) : mask (p ++ [w]) = mask p ||| 2 ^ w.toNat := by
  unfold mask
  rw [List.foldl_append]
  rfl
theorem mask_bit {p : List Int} (h : ∀ w ∈ p, 0 ≤ w) (i : Nat) : (mask p).testBit i = decide ((i : Int) ∈ p) := by
  have go : ∀ (p : List Int) (m : Nat), (∀ w ∈ p, 0 ≤ w) → (p.foldl (fun m w => m ||| 2 ^ w.toNat) m).testBit i = (m.testBit i || decide ((i : Int) ∈ p)) := by
    intro p
    induction p with
    | nil => intro m _; simp
    | cons x p ih =>
      intro m hp
      have hx := hp x List.mem_cons_self
      rw [List.foldl_cons, ih _ fun w hw => hp w (List.mem_cons_of_mem _ hw), Nat.testBit_or, Nat.testBit_two_pow]
      have e : decide (x.toNat = i) = decide ((i : Int) = x) := by
        rw [decide_eq_decide]; omega
      rw [e, Bool.or_assoc]
      congr 1
      rw [Bool.eq_iff_iff]
      simp
  unfold mask
  rw [go p 0 h, Nat.zero_testBit, Bool.false_or]
theorem or_gt {m k : Nat} (h : m.testBit k = false) : m < m ||| 2 ^ k := by
  refine Nat.lt_of_le_of_ne Nat.left_le_or fun e => ?_
  have q := congrArg (fun x => Nat.testBit x k) e
  simp only [Nat.testBit_or, Nat.testBit_two_pow, h] at q
  simp at q
theorem mask_lt {n : Nat} {p : List Int} (h : ∀ w ∈ p, 0 ≤ w ∧ w < n) : mask p < 2 ^ n := by
  refine Nat.lt_pow_two_of_testBit _ fun i hi => ?_
  rw [mask_bit fun w hw => (h w hw).1]
  refine decide_eq_false fun z => ?_
  have := h _ z
  omega
/-! counting -/
theorem countP_two {α : Type} {p q r : α → Bool} : ∀ {l : List α}, (∀ x ∈ l, (if p x = true then 1 else 0) = (if q x = true then 1 else 0) + (if r x = true then 1 else 0)) → l.countP p = l.countP q + l.countP r
  | [], _ => rfl
  | x :: l, h => by
    have h1 := h x List.mem_cons_self
    have h2 := countP_two (l := l) fun y hy => h y (List.mem_cons_of_mem _ hy)
    rw [List.countP_cons, List.countP_cons, List.countP_cons]
    omega
theorem countP_one {k : Int} {f : Int → Bool} : ∀ {l : List Int}, l.Nodup → (∀ w ∈ l, w ≠ k → f w = false) → l.countP f = if k ∈ l ∧ f k = true then 1 else 0
  | [], _, _ => rfl
  | x :: l, nd, h => by
    rw [List.nodup_cons] at nd
    have ih := countP_one nd.2 fun w hw => h w (List.mem_cons_of_mem _ hw)
    rw [List.countP_cons, ih]
    by_cases e : x = k
    · subst e
      rw [if_neg (fun z => nd.1 z.1)]
      by_cases c : f x = true
      · rw [if_pos c, if_pos ⟨List.mem_cons_self, c⟩]
      · rw [if_neg c, if_neg (fun z => c z.2)]
    · have hx := h x List.mem_cons_self e
      rw [hx]
      have : (k ∈ x :: l ∧ f k = true) ↔ (k ∈ l ∧ f k = true) := by
        rw [List.mem_cons]
        exact ⟨fun z => ⟨z.1.resolve_left fun y => e y.symm, z.2⟩, fun z => ⟨.inr z.1, z.2⟩⟩
      simp only [this]
      simp
theorem countP_flat {α β : Type} {f : β → Bool} {g : α → List β} {p : α → Bool} : ∀ {l : List α}, (∀ q ∈ l, (g q).countP f = if p q = true then 1 else 0) → (l.flatMap g).countP f = l.countP p
  | [], _ => rfl
  | x :: l, h => by
    rw [List.flatMap_cons, List.countP_append, List.countP_cons, h x List.mem_cons_self, countP_flat fun y hy => h y (List.mem_cons_of_mem _ hy)]
    omega
def preP (n : Nat) : List (List Int) := (List.range (n + 1)).flatMap (allR n)
def prs (n : Nat) : List (List Int × Int) := (preP n).flatMap fun q => ((rng n).filter fun w => !decide (w ∈ q)).map fun w => (q, w)
theorem preP_mem {n : Nat} {q : List Int} (h : q ∈ preP n) : q.Nodup ∧ ∀ x ∈ q, 0 ≤ x ∧ x < n := by
  obtain ⟨k, _, hq⟩ := List.mem_flatMap.mp h
  exact (allR_mem hq).2
theorem prs_mem {n : Nat} {x : List Int × Int} (h : x ∈ prs n) : x.1 ∈ preP n ∧ (0 ≤ x.2 ∧ x.2 < n) ∧ x.2 ∉ x.1 := by
  obtain ⟨q, hq, hx⟩ := List.mem_flatMap.mp h
  obtain ⟨w, hw, rfl⟩ := List.mem_map.mp hx
  rw [List.mem_filter] at hw
  exact ⟨hq, rng_mem hw.1, by simpa using hw.2⟩
theorem flatMap_eq_nil' {α β : Type} {l : List α} {f : α → List β} (h : ∀ x ∈ l, f x = []) : l.flatMap f = [] := by
  induction l with
  | nil => rfl
  | cons x l ih =>
    rw [List.flatMap_cons, h x List.mem_cons_self, ih fun y hy => h y (List.mem_cons_of_mem _ hy)]
    rfl
theorem allR_top (n : Nat) : allR n (n + 1) = [] := by
  rw [List.eq_nil_iff_forall_not_mem]
  intro p hp
  obtain ⟨h1, h2, h3⟩ := allR_mem hp
  have := h2.length_le_of_subset fun x hx => mem_rng (h3 x hx).1 (h3 x hx).2
  rw [rng_len] at this
  omega
theorem prs_snoc (n : Nat) : (prs n).map (fun x => x.1 ++ [x.2]) = (List.range n).flatMap fun k => allR n (k + 1) := by
  have e : (prs n).map (fun x => x.1 ++ [x.2]) = (preP n).flatMap (ext1 n) := by
    unfold prs
    rw [List.map_flatMap]
    congr 1
    funext q
    rw [List.map_map]
    rfl
  rw [e]
  unfold preP
  rw [List.flatMap_assoc, List.range_succ, List.flatMap_append]
  have : [n].flatMap (fun x => (allR n x).flatMap (ext1 n)) = allR n (n + 1) := by
    rw [List.flatMap_cons, List.flatMap_nil, List.append_nil]
    rfl
  rw [this, allR_top, List.append_nil]
  rfl
theorem countP_pre (n : Nat) (f : List Int → Bool) : (preP n).countP f = (if f [] = true then 1 else 0) + (prs n).countP fun x => f (x.1 ++ [x.2]) := by
  have e : (prs n).countP (fun x => f (x.1 ++ [x.2])) = ((prs n).map fun x => x.1 ++ [x.2]).countP f := by rw [List.countP_map]; rfl
  rw [e, prs_snoc]
  unfold preP
  rw [List.range_succ_eq_map, List.flatMap_cons, List.countP_append, List.flatMap_map]
  congr 1
  show [[]].countP f = _
  rw [List.countP_cons, List.countP_nil, Nat.zero_add]
/-! what the counting by sets comes to -/
def gd (rows : List (List Nat)) (b : Nat) (q : List Int) : Bool := fitAll rows q && decide (mask q = b)
def num (n : Nat) (rows : List (List Nat)) (b : Nat) : Nat := (preP n).countP (gd rows b)
def ways (n : Nat) (rows : List (List Nat)) (b k c : Nat) : Nat := (if c = 0 then 1 else 0) + (prs n).countP fun x => gd rows c (x.1 ++ [x.2]) && decide (mask x.1 < b ∨ (mask x.1 = b ∧ x.2 < (k : Int)))
theorem fitAll_nil (rows : List (List Nat)) : fitAll rows [] = true := by
  unfold fitAll
  rw [List.all_eq_true]
  exact fun _ _ => rfl
theorem prs_gt {n : Nat} {x : List Int × Int} (h : x ∈ prs n) : mask x.1 < mask (x.1 ++ [x.2]) := by
  obtain ⟨h1, h2, h3⟩ := prs_mem h
  rw [mask_snoc]
  refine or_gt ?_
  rw [mask_bit fun w hw => ((preP_mem h1).2 w hw).1]
  refine decide_eq_false ?_
  rw [show ((x.2.toNat : Nat) : Int) = x.2 by omega]
  exact h3
theorem ways_start (n : Nat) (rows : List (List Nat)) (c : Nat) : ways n rows 0 0 c = if c = 0 then 1 else 0 := by
  unfold ways
  rw [show (prs n).countP (fun x => gd rows c (x.1 ++ [x.2]) && decide (mask x.1 < 0 ∨ (mask x.1 = 0 ∧ x.2 < ((0 : Nat) : Int)))) = 0 from ?_]
  · rfl
  · rw [List.countP_eq_zero]
    intro x hx
    have := (prs_mem hx).2.1
    rw [Bool.and_eq_true]
    rintro ⟨_, z⟩
    have := of_decide_eq_true z
    omega
theorem ways_next (n : Nat) (rows : List (List Nat)) (b c : Nat) : ways n rows b n c = ways n rows (b + 1) 0 c := by
  unfold ways
  congr 1
  refine List.countP_congr fun x hx => ?_
  have := (prs_mem hx).2.1
  rw [Bool.and_eq_true, Bool.and_eq_true, decide_eq_true_eq, decide_eq_true_eq]
  constructor
  · rintro ⟨h1, h2⟩
    exact ⟨h1, by omega⟩
  · rintro ⟨h1, h2⟩
    exact ⟨h1, by omega⟩
theorem ways_num (n : Nat) (rows : List (List Nat)) {b c : Nat} (k : Nat) (h : c ≤ b) : ways n rows b k c = num n rows c := by
  unfold ways num
  rw [countP_pre]
  congr 1
  · unfold gd
    rw [fitAll_nil, Bool.true_and]
    show _ = if decide (0 = c) = true then 1 else 0
    by_cases e : c = 0
    · rw [if_pos e, if_pos (by simp [e])]
    · rw [if_neg e, if_neg (by simp; omega)]
  · refine List.countP_congr fun x hx => ?_
    have g := prs_gt hx
    rw [Bool.and_eq_true]
    refine ⟨fun z => z.1, fun z => ⟨z, decide_eq_true ?_⟩⟩
    unfold gd at z
    rw [Bool.and_eq_true, decide_eq_true_eq] at z
    omega
def ahead (n b : Nat) : List Int := (rng n).filter fun w => b.testBit w.toNat
theorem mem_ahead {n b : Nat} {q : List Int} (h : ∀ x ∈ q, 0 ≤ x ∧ x < (n : Int)) (e : mask q = b) (v : Int) : v ∈ q ↔ v ∈ ahead n b := by
  unfold ahead
  rw [List.mem_filter, ← e, mask_bit fun w hw => (h w hw).1, decide_eq_true_eq]
  constructor
  · intro hv
    have := h v hv
    refine ⟨mem_rng this.1 this.2, ?_⟩
    rw [show ((v.toNat : Nat) : Int) = v by omega]
    exact hv
  · rintro ⟨h1, h2⟩
    have := rng_mem h1
    rw [show ((v.toNat : Nat) : Int) = v by omega] at h2
    exact h2
theorem ways_step {n : Nat} {rows : List (List Nat)} (hr : ∀ row ∈ rows, IsRow n row) (b k c : Nat) (hk : k < n) : ways n rows b (k + 1) c = ways n rows b k c + if c = b ||| 2 ^ k ∧ (k : Int) ∉ ahead n b ∧ mayB rows (ahead n b) k = true then num n rows b else 0 := by
  unfold ways
  rw [Nat.add_assoc]
  congr 1
  rw [countP_two (q := fun x => gd rows c (x.1 ++ [x.2]) && decide (mask x.1 < b ∨ (mask x.1 = b ∧ x.2 < (k : Int)))) (r := fun x => gd rows c (x.1 ++ [x.2]) && decide (mask x.1 = b ∧ x.2 = (k : Int)))]
  · congr 1
    unfold prs
    by_cases cond : c = b ||| 2 ^ k ∧ (k : Int) ∉ ahead n b ∧ mayB rows (ahead n b) k = true
    · rw [if_pos cond]
      unfold num
      refine countP_flat fun q hq => ?_
      have hq' := (preP_mem hq).2
      rw [List.countP_map, List.countP_filter]
      rw [countP_one (k := (k : Int)) (rng_nodup n)]
      · have hkr : (k : Int) ∈ rng n := mem_rng (by omega) (by omega)
        by_cases e : mask q = b
        · have hm := mem_ahead hq' e
          have h1 : (k : Int) ∉ q := fun z => cond.2.1 ((hm _).mp z)
          have h2 : mayB rows q k = true := by rw [mayB_congr hm]; exact cond.2.2
          have h3 : mask (q ++ [(k : Int)]) = c := by rw [mask_snoc, e, cond.1]; rfl
          unfold gd
          simp [hkr, e, h1, h2, h3, fitAll_snoc hr]
        · have : gd rows b q = false := by unfold gd; rw [decide_eq_false e, Bool.and_false]
          rw [this]
          simp [e]
      · intro w _ hw
        simp [hw]
    · rw [if_neg cond, List.countP_eq_zero]
      intro x hx
      obtain ⟨hp, hw, hn⟩ := prs_mem hx
      have hq' := (preP_mem hp).2
      rw [Bool.and_eq_true, decide_eq_true_eq]
      rintro ⟨g, e, ek⟩
      unfold gd at g
      rw [fitAll_snoc hr, Bool.and_eq_true, Bool.and_eq_true, decide_eq_true_eq, mask_snoc, e, ek] at g
      have hm := mem_ahead hq' e
      refine cond ⟨g.2.symm, fun z => hn ?_, ?_⟩
      · rw [ek]; exact (hm _).mpr z
      · rw [← mayB_congr hm]; exact g.1.2
  · intro x hx
    cases gd rows c (x.1 ++ [x.2])
    · simp
    · simp only [Bool.true_and, decide_eq_true_eq]
      by_cases e1 : mask x.1 < b
      · rw [if_pos (.inl e1), if_pos (.inl e1), if_neg (by omega)]
      · by_cases e2 : mask x.1 = b
        · by_cases e3 : x.2 < (k : Int)
          · rw [if_pos (.inr ⟨e2, by omega⟩), if_pos (.inr ⟨e2, e3⟩), if_neg (by omega)]
          · by_cases e4 : x.2 = (k : Int)
            · rw [if_pos (.inr ⟨e2, by omega⟩), if_neg (by omega), if_pos ⟨e2, e4⟩]
            · rw [if_neg (by omega), if_neg (by omega), if_neg (by omega)]
        · rw [if_neg (by omega), if_neg (by omega), if_neg (by omega)]
/-- the rankings that fit, in order -/
def fitR (n : Nat) (rows : List (List Nat)) : List (List Int) := (allR n n).filter (fitAll rows)
theorem num_full (n : Nat) (rows : List (List Nat)) : num n rows (2 ^ n - 1) = (fitR n rows).length := by
  have hfull : ∀ q ∈ allR n n, mask q = 2 ^ n - 1 := fun q hq => by
    have hrk := allR_rk hq
    refine Nat.eq_of_testBit_eq fun i => ?_
    rw [mask_bit fun w hw => (hrk.mem hw).1, Nat.testBit_two_pow_sub_one, decide_eq_decide]
    exact ⟨fun z => by have := hrk.mem z; omega, fun z => hrk.has (by omega) (by omega)⟩
  have hless : ∀ k < n, ∀ q ∈ allR n k, mask q ≠ 2 ^ n - 1 := fun k hk q hq e => by
    obtain ⟨h1, h2, h3⟩ := allR_mem hq
    have sb : ∀ x ∈ rng n, x ∈ q := fun x hx => by
      have hx' := rng_mem hx
      have := mask_bit (p := q) (fun w hw => (h3 w hw).1) x.toNat
      rw [e, Nat.testBit_two_pow_sub_one, decide_eq_decide] at this
      have := this.mp (by omega)
      rwa [show ((x.toNat : Nat) : Int) = x by omega] at this
    have := (rng_nodup n).length_le_of_subset sb
    rw [rng_len] at this
    omega
  unfold num preP fitR
  rw [List.range_succ, List.flatMap_append, List.countP_append, ← List.countP_eq_length_filter]
  have z : ((List.range n).flatMap (allR n)).countP (gd rows (2 ^ n - 1)) = 0 := by
    rw [List.countP_eq_zero]
    intro q hq
    obtain ⟨k, hk, hq⟩ := List.mem_flatMap.mp hq
    unfold gd
    rw [decide_eq_false (hless k (List.mem_range.mp hk) q hq), Bool.and_false]
    simp
  rw [z, Nat.zero_add, List.flatMap_cons, List.flatMap_nil, List.append_nil]
  refine List.countP_congr fun q hq => ?_
  unfold gd
  rw [hfull q hq]
  simp
theorem mem_fitR {n : Nat} {rows : List (List Nat)} {r : List Int} : r ∈ fitR n rows → IsRk n r ∧ ∀ q ∈ rows, fitsB q r = true := fun h => by
  unfold fitR at h
  rw [List.mem_filter] at h
  refine ⟨allR_rk h.1, ?_⟩
  have := h.2
  unfold fitAll at this
  rwa [List.all_eq_true] at this
end Tg

namespace Tg
open PySem L2
/-! how many rankings fit: the program's run -/
theorem mayB_snoc (pre : List (List Nat)) (row : List Nat) (p : List Int) (w : Int) : mayB (pre ++ [row]) p w = (mayB pre p w && (!decide (sg row w = 76) || p.any fun v => decide (sg row v = 87))) := by
  unfold mayB
  rw [List.all_append]
  simp
theorem may_come_eq {n : Nat} {rows : List (List Nat)} {p : List Int} {w : Int} (hn : n ≤ 63) (hr : ∀ row ∈ rows, IsRow n row) (hp : ∀ v ∈ p, 0 ≤ v ∧ v < n) (hpl : p.length ≤ 1000) (hw : 0 ≤ w ∧ w < n) :
    F_may_come [.lst (rows.map .str), .lst (p.map .int), .int w] = .ok (.val (.bl (mayB rows p w))) := by
  refine W_eq (runB_W ?_)
  simp [body_may_come]
  refine W_bind.2 (W_forM rows .str rfl (fun pre e => (∃ x y : Option S, e = [some (.val (.lst (rows.map .str))), some (.val (.lst (p.map .int))), some (.val (.int w)), x, y]) ∧ mayB pre p w = true) ⟨⟨_, _, rfl⟩, rfl⟩ ?_ ?_)
  · rintro pre row post e hx ⟨⟨x, y, rfl⟩, hm⟩
    have hrow := hr row (mem_mid hx)
    have e1 := sg_at (row := row) hw.1 (by rw [hrow.1]; omega)
    have e2 := oEq_c (hrow.lt w) (d := 76) (by decide)
    have hz : n ≤ 65536 := by omega
    have hsn := mayB_snoc pre row p w
    simp [e1, hrow.1, hz, e2]
    by_cases c : sg row w = 76
    · simp [c]
      refine W_bind.2 (W_cm p .int .str (fun v => [sg row v]) rfl (by omega) ?_ ?_)
      · intro v hv
        have e1 := sg_at (row := row) (hp v hv).1 (by rw [hrow.1]; have := (hp v hv).2; omega)
        simp [e1, hrow.1, hz]
      · have e4 := oNotIn_ls (a := [87]) (xs := p.map fun v => [sg row v]) (fun c hc => by rw [List.mem_singleton.mp hc]; decide) (fun x hx => by
          obtain ⟨w, _, rfl⟩ := List.mem_map.mp hx
          exact fun c hc => by rw [List.mem_singleton.mp hc]; exact hrow.lt w)
        have e3 : ([87] ∈ p.map fun v => [sg row v]) ↔ ∃ v ∈ p, sg row v = 87 := by simp
        simp only [kc_eq, k2b_eq, S.d_val, S.d_own, e4, e3, R.bind_ok]
        by_cases d : ∃ v ∈ p, sg row v = 87
        · simp [d]
          rw [hsn, hm]
          simpa [c] using d
        · simp [d]
          subst hx
          have : mayB (pre ++ row :: post) p w = (mayB (pre ++ [row]) p w && mayB post p w) := by
            unfold mayB
            rw [← List.all_append]
            simp
          rw [this, hsn]
          have : (p.any fun v => decide (sg row v = 87)) = false := by
            rw [Bool.eq_false_iff]
            intro z
            rw [List.any_eq_true] at z
            obtain ⟨v, hv, e⟩ := z
            exact d ⟨v, hv, of_decide_eq_true e⟩
          simp [c, this]
    · simp [c]
      rw [hsn, hm]
      simp [c]
  · rintro e ⟨⟨x, y, rfl⟩, hm⟩
    simp [hm]
theorem bor_nat (a b : Nat) : Builtin.bitOr (a : Int) (b : Int) = ((a ||| b : Nat) : Int) := by
  have h1 : decide ((0 : Int) ≤ -(a : Int) - 1) = false := decide_eq_false (by omega)
  have h2 : decide ((0 : Int) ≤ -(b : Int) - 1) = false := decide_eq_false (by omega)
  unfold Builtin.bitOr Builtin.bitAnd Builtin.bitNot
  rw [h1, h2]
  show -(-(((-(-(a : Int) - 1) - 1).toNat ||| (-(-(b : Int) - 1) - 1).toNat : Nat) : Int) - 1) - 1 = _
  rw [show (-(-(a : Int) - 1) - 1).toNat = a by omega, show (-(-(b : Int) - 1) - 1).toNat = b by omega]
  omega
theorem band_one (a : Nat) : Builtin.bitAnd (a : Int) 1 = ((a % 2 : Nat) : Int) := by
  unfold Builtin.bitAnd
  rw [decide_eq_true (show (0 : Int) ≤ (a : Int) by omega), decide_eq_true (show (0 : Int) ≤ 1 by omega)]
  show (((a : Int).toNat &&& (1 : Int).toNat : Nat) : Int) = _
  rw [Int.toNat_natCast, show (1 : Int).toNat = 1 by rfl, Nat.and_one_is_mod]
theorem shr_bit (b w : Nat) : (((b : Int) / 2 ^ w)) = ((b / 2 ^ w : Nat) : Int) := by simp
theorem bit_of (b w : Nat) : b.testBit w = decide (b / 2 ^ w % 2 = 1) := by
  rw [Nat.testBit_eq_decide_div_mod_eq]
/-- the told ways -/
def wl (n : Nat) (rows : List (List Nat)) (b k : Nat) : List Int := (List.range (2 ^ n)).map fun c => (ways n rows b k c : Int)
theorem wl_len (n : Nat) (rows : List (List Nat)) (b k : Nat) : (wl n rows b k).length = 2 ^ n := by simp [wl]
theorem wl_get {n : Nat} {rows : List (List Nat)} {b k c : Nat} (h : c < 2 ^ n) : (wl n rows b k)[c]? = some (ways n rows b k c : Int) := by
  unfold wl
  simp [h]
theorem wl_same {n : Nat} {rows : List (List Nat)} (hr : ∀ row ∈ rows, IsRow n row) {b k : Nat} (hk : k < n) (h : num n rows b = 0 ∨ (k : Int) ∈ ahead n b ∨ mayB rows (ahead n b) k = false) : wl n rows b (k + 1) = wl n rows b k := by
  unfold wl
  refine List.map_congr_left fun c _ => ?_
  rw [ways_step hr b k c hk]
  split
  · rename_i q
    rcases h with h | h | h
    · rw [h]; rfl
    · exact absurd h q.2.1
    · rw [h] at q; exact absurd q.2.2 (by simp)
  · rfl
theorem wl_set {n : Nat} {rows : List (List Nat)} (hr : ∀ row ∈ rows, IsRow n row) {b k : Nat} (hk : k < n) (h1 : (k : Int) ∉ ahead n b) (h2 : mayB rows (ahead n b) k = true) : wl n rows b (k + 1) = (wl n rows b k).set (b ||| 2 ^ k) ((ways n rows b k (b ||| 2 ^ k) : Int) + (num n rows b : Int)) := by
  refine List.ext_getElem? fun c => ?_
  by_cases hc : c < 2 ^ n
  · rw [wl_get hc, ways_step hr b k c hk]
    by_cases e : c = b ||| 2 ^ k
    · subst e
      rw [if_pos ⟨rfl, h1, h2⟩, List.getElem?_set_self (by rw [wl_len]; exact hc)]
      congr 1
    · rw [if_neg (fun z => e z.1), List.getElem?_set_ne (fun z => e z.symm), wl_get hc]
      rfl
  · rw [List.getElem?_eq_none (by rw [wl_len]; omega), List.getElem?_eq_none (by rw [List.length_set, wl_len]; omega)]
end Tg

namespace Tg
open PySem L2
/-! the first ranking that fits: the least wish each time -/
theorem lex_mid {x y : Int} (h : x < y) (b c : List Int) : ∀ a : List Int, HT.lexLt (a ++ x :: b) (a ++ y :: c) = true
  | [] => by
    show (if x = y then HT.lexLt b c else decide (x < y)) = true
    rw [if_neg (by omega)]
    exact decide_eq_true h
  | z :: a => by
    show (if z = z then HT.lexLt (a ++ x :: b) (a ++ y :: c) else _) = true
    rw [if_pos rfl, lex_mid h b c a]
theorem lex_asymm : ∀ {p q : List Int}, HT.lexLt p q = true → HT.lexLt q p = true → False
  | [], [], h, _ => by cases h
  | [], _ :: _, _, h => by cases h
  | _ :: _, [], h, _ => by cases h
  | x :: p, y :: q, h1, h2 => by
    have h1 : (if x = y then HT.lexLt p q else decide (x < y)) = true := h1
    have h2 : (if y = x then HT.lexLt q p else decide (y < x)) = true := h2
    by_cases e : x = y
    · rw [if_pos e] at h1
      rw [if_pos e.symm] at h2
      exact lex_asymm h1 h2
    · rw [if_neg e] at h1
      rw [if_neg fun z => e z.symm] at h2
      have := of_decide_eq_true h1
      have := of_decide_eq_true h2
      omega
theorem mem_allR {n : Nat} : ∀ {k : Nat} {p : List Int}, p.length = k → p.Nodup → (∀ x ∈ p, 0 ≤ x ∧ x < n) → p ∈ allR n k
  | 0, p, h, _, _ => by
    rw [List.length_eq_zero_iff] at h
    rw [h]
    exact List.mem_singleton.mpr rfl
  | k + 1, p, h, nd, hp => by
    have hne : p ≠ [] := fun e => by rw [e] at h; cases h
    have e := (List.dropLast_concat_getLast hne).symm
    generalize hq : p.dropLast = q at e
    generalize hw : p.getLast hne = w at e
    subst e
    rw [List.nodup_append] at nd
    refine List.mem_flatMap.mpr ⟨q, mem_allR (by simpa using h) nd.1 fun x hx => hp x (List.mem_append.mpr (.inl hx)), ?_⟩
    exact mem_ext1.mpr ⟨w, hp w (by simp), fun z => nd.2.2 w z w (List.mem_singleton.mpr rfl) rfl, rfl⟩
theorem rk_allR {n : Nat} {p : List Int} (h : IsRk n p) : p ∈ allR n n := mem_allR h.len h.nodup fun _ hx => h.mem hx
theorem mem_fitR' {n : Nat} {rows : List (List Nat)} {p : List Int} : p ∈ fitR n rows ↔ IsRk n p ∧ fitAll rows p = true := by
  unfold fitR
  rw [List.mem_filter]
  exact ⟨fun h => ⟨allR_rk h.1, h.2⟩, fun h => ⟨rk_allR h.1, h.2⟩⟩
theorem fitAll_iff {n : Nat} {rows : List (List Nat)} (hr : ∀ row ∈ rows, IsRow n row) (p : List Int) : fitAll rows p = true ↔ ∀ row ∈ rows, ∀ l w m, p = l ++ w :: m → sg row w = 76 → ∃ o ∈ l, sg row o = 87 := by
  unfold fitAll
  rw [List.all_eq_true]
  exact ⟨fun h row hm => (fitsB_iff (hr row hm) p).mp (h row hm), fun h row hm => (fitsB_iff (hr row hm) p).mpr (h row hm)⟩
theorem fitAll_pre {n : Nat} {rows : List (List Nat)} (hr : ∀ row ∈ rows, IsRow n row) {p t : List Int} (h : fitAll rows (p ++ t) = true) : fitAll rows p = true := by
  rw [fitAll_iff hr] at h ⊢
  intro row hm l w m e
  exact h row hm l w (m ++ t) (by rw [e]; simp)
/-- a good beginning, filled up as a good ranking has it, is good -/
theorem fill {n : Nat} {rows : List (List Nat)} (hr : ∀ row ∈ rows, IsRow n row) {p q : List Int} (nd : p.Nodup) (hp : ∀ x ∈ p, 0 ≤ x ∧ x < (n : Int)) (hf : fitAll rows p = true) (hq : q ∈ fitR n rows) : (p ++ q.filter fun x => !decide (x ∈ p)) ∈ fitR n rows := by
  obtain ⟨hk, hfq⟩ := mem_fitR'.mp hq
  have mem : ∀ x, x ∈ (p ++ q.filter fun x => !decide (x ∈ p)) ↔ 0 ≤ x ∧ x < (n : Int) := fun x => by
    rw [List.mem_append, List.mem_filter]
    constructor
    · rintro (h | h)
      · exact hp x h
      · exact hk.mem h.1
    · intro h
      by_cases c : x ∈ p
      · exact .inl c
      · exact .inr ⟨hk.has h.1 h.2, by simpa using c⟩
  have nd2 : (p ++ q.filter fun x => !decide (x ∈ p)).Nodup := by
    rw [List.nodup_append]
    refine ⟨nd, hk.nodup.filter _, fun x hx y hy e => ?_⟩
    rw [List.mem_filter] at hy
    rw [← e] at hy
    simp [hx] at hy
  refine mem_fitR'.mpr ⟨?_, ?_⟩
  · unfold IsRk
    rw [List.perm_ext_iff_of_nodup nd2 (rng_nodup n)]
    exact fun x => ⟨fun h => mem_rng ((mem x).mp h).1 ((mem x).mp h).2, fun h => (mem x).mpr (rng_mem h)⟩
  · rw [fitAll_iff hr] at hf hfq ⊢
    intro row hm l w m e hw
    rcases List.append_eq_append_iff.mp e with ⟨l', e1, e2⟩ | ⟨t, e1, e2⟩
    · -- l = p ++ l'
      have hwf : w ∈ q.filter fun x => !decide (x ∈ p) := by rw [e2]; simp
      obtain ⟨a, b, e3⟩ := List.append_of_mem (List.mem_filter.mp hwf).1
      obtain ⟨o, ho, hs⟩ := hfq row hm a w b e3 hw
      refine ⟨o, ?_, hs⟩
      rw [e1, List.mem_append]
      by_cases c : o ∈ p
      · exact .inl c
      · right
        have hwp : w ∉ p := by have := (List.mem_filter.mp hwf).2; simpa using this
        rw [e3, List.filter_append, List.filter_cons, if_pos (by simp [hwp])] at e2
        have hnd : (a.filter (fun x => !decide (x ∈ p)) ++ w :: b.filter (fun x => !decide (x ∈ p))).Nodup := by
          have := hk.nodup.filter (fun x => !decide (x ∈ p))
          rw [e3, List.filter_append, List.filter_cons, if_pos (by simp [hwp])] at this
          exact this
        have hoa : o ∈ a.filter (fun x => !decide (x ∈ p)) := List.mem_filter.mpr ⟨ho, by simp [c]⟩
        -- w stands once
        have hnd2 : (l' ++ w :: m).Nodup := by rw [← e2]; exact hnd
        rcases List.append_eq_append_iff.mp e2 with ⟨u, f1, f2⟩ | ⟨u, f1, f2⟩
        · rw [f1]; exact List.mem_append.mpr (.inl hoa)
        · cases u with
          | nil => rw [List.append_nil] at f1; rw [← f1]; exact hoa
          | cons z u =>
            exfalso
            have : w = z := by
              rw [List.cons_append] at f2
              exact (List.cons.inj f2).1
            subst this
            rw [f1] at hnd
            have : w ∈ l' ++ w :: u := by simp
            rw [List.nodup_append] at hnd
            exact hnd.2.2 w this w List.mem_cons_self rfl
    · cases t with
      | nil =>
        -- w is the first of the others
        rw [List.append_nil] at e1
        rw [List.nil_append] at e2
        subst e1
        have hwf : w ∈ q.filter fun x => !decide (x ∈ p) := by rw [← e2]; simp
        obtain ⟨a, b, e3⟩ := List.append_of_mem (List.mem_filter.mp hwf).1
        obtain ⟨o, ho, hs⟩ := hfq row hm a w b e3 hw
        refine ⟨o, ?_, hs⟩
        by_cases c : o ∈ p
        · exact c
        · exfalso
          have hwp : w ∉ p := by have := (List.mem_filter.mp hwf).2; simpa using this
          have hnd := hk.nodup
          rw [e3, List.filter_append, List.filter_cons, if_pos (by simp [hwp])] at e2
          have hoa : o ∈ a.filter (fun x => !decide (x ∈ p)) := List.mem_filter.mpr ⟨ho, by simp [c]⟩
          cases hA : a.filter (fun x => !decide (x ∈ p)) with
          | nil => rw [hA] at hoa; cases hoa
          | cons z A =>
            rw [hA, List.cons_append] at e2
            have hz := (List.cons.inj e2).1
            have hza : z ∈ a := by
              have : z ∈ a.filter (fun x => !decide (x ∈ p)) := by rw [hA]; exact List.mem_cons_self
              exact (List.mem_filter.mp this).1
            rw [e3, List.nodup_append] at hnd
            exact hnd.2.2 z hza w List.mem_cons_self hz.symm
      | cons z t =>
        rw [List.cons_append] at e2
        obtain ⟨hz, _⟩ := List.cons.inj e2
        subst hz
        exact hf row hm l w t e1 hw
def free (n : Nat) (rows : List (List Nat)) (p : List Int) : List Int := (rng n).filter fun w => !decide (w ∈ p) && mayB rows p w
structure Led (n : Nat) (rows : List (List Nat)) (p : List Int) : Prop where
  nd : p.Nodup
  at' : ∀ x ∈ p, 0 ≤ x ∧ x < (n : Int)
  fit : fitAll rows p = true
  low : ∀ q ∈ fitR n rows, (∃ t, q = p ++ t) ∨ ∃ a x b y c, p = a ++ x :: b ∧ q = a ++ y :: c ∧ x < y
theorem led_nil (n : Nat) (rows : List (List Nat)) : Led n rows [] := ⟨List.nodup_nil, fun x hx => (by cases hx), fitAll_nil rows, fun q _ => .inl ⟨q, rfl⟩⟩
theorem Led.le {n : Nat} {rows : List (List Nat)} {p : List Int} (h : Led n rows p) : p.length ≤ n := by
  have := nodup_le h.nd fun x hx => mem_rng (h.at' x hx).1 (h.at' x hx).2
  rwa [rng_len] at this
theorem mem_free {n : Nat} {rows : List (List Nat)} {p : List Int} {w : Int} : w ∈ free n rows p ↔ (0 ≤ w ∧ w < (n : Int)) ∧ w ∉ p ∧ mayB rows p w = true := by
  unfold free
  rw [List.mem_filter, Bool.and_eq_true]
  constructor
  · rintro ⟨h1, h2, h3⟩
    exact ⟨rng_mem h1, by simpa using h2, h3⟩
  · rintro ⟨h1, h2, h3⟩
    exact ⟨mem_rng h1.1 h1.2, by simpa using h2, h3⟩
/-- a good ranking that begins so goes on with a free wish -/
theorem goes_on {n : Nat} {rows : List (List Nat)} (hr : ∀ row ∈ rows, IsRow n row) {p t : List Int} (hl : p.length < n) (hq : p ++ t ∈ fitR n rows) : ∃ y c, t = y :: c ∧ y ∈ free n rows p := by
  obtain ⟨hk, hf⟩ := mem_fitR'.mp hq
  cases t with
  | nil => have := hk.len; rw [List.append_nil] at this; omega
  | cons y c =>
    refine ⟨y, c, rfl, mem_free.mpr ⟨hk.mem (by simp), fun z => ?_, ?_⟩⟩
    · have := hk.nodup
      rw [List.nodup_append] at this
      exact this.2.2 y z y List.mem_cons_self rfl
    · have h2 : fitAll rows (p ++ [y]) = true := fitAll_pre hr (t := c) (by rw [List.append_assoc]; exact hf)
      rw [fitAll_snoc hr, Bool.and_eq_true] at h2
      exact h2.2
theorem led_step {n : Nat} {rows : List (List Nat)} (hr : ∀ row ∈ rows, IsRow n row) {p : List Int} (h : Led n rows p) (hl : p.length < n) {w : Int} {rest : List Int} (e : free n rows p = w :: rest) : Led n rows (p ++ [w]) := by
  have hw := mem_free.mp (show w ∈ free n rows p by rw [e]; exact List.mem_cons_self)
  refine ⟨?_, ?_, ?_, ?_⟩
  · rw [List.nodup_append]
    exact ⟨h.nd, List.nodup_cons.mpr ⟨List.not_mem_nil, List.nodup_nil⟩, fun x hx y hy z => hw.2.1 (by rw [List.mem_singleton.mp hy] at z; rw [← z]; exact hx)⟩
  · intro x hx
    rcases List.mem_append.mp hx with hx | hx
    · exact h.at' x hx
    · rw [List.mem_singleton.mp hx]; exact hw.1
  · rw [fitAll_snoc hr, h.fit, hw.2.2]; rfl
  · intro q hq
    rcases h.low q hq with ⟨t, rfl⟩ | ⟨a, x, b, y, c, e1, e2, hxy⟩
    · obtain ⟨y, c, rfl, hy⟩ := goes_on hr hl hq
      have srt : (free n rows p).Pairwise (· < ·) := (rng_lt n).filter _
      rw [e] at srt hy
      rcases List.mem_cons.mp hy with hy | hy
      · left
        exact ⟨c, by rw [hy]; simp⟩
      · right
        exact ⟨p, w, [], y, c, rfl, rfl, (List.pairwise_cons.mp srt).1 y hy⟩
    · right
      exact ⟨a, x, b ++ [w], y, c, by rw [e1]; simp, e2, hxy⟩
theorem free_nil {n : Nat} {rows : List (List Nat)} (hr : ∀ row ∈ rows, IsRow n row) {p : List Int} (h : Led n rows p) (hl : p.length < n) (e : free n rows p = []) : fitR n rows = [] := by
  rw [List.eq_nil_iff_forall_not_mem]
  intro q hq
  obtain ⟨y, c, _, hy⟩ := goes_on hr hl (fill hr h.nd h.at' h.fit hq)
  rw [e] at hy
  cases hy
theorem first_end {n : Nat} {rows : List (List Nat)} {p : List Int} (h : Led n rows p) (hl : p.length = n) : (fitR n rows).head? = some p := by
  have hp : p ∈ fitR n rows := mem_fitR'.mpr ⟨rk_of hl h.nd h.at', h.fit⟩
  have srt : (fitR n rows).Pairwise fun p q => HT.lexLt p q = true := (allR_lex n n).filter _
  cases e : fitR n rows with
  | nil => rw [e] at hp; cases hp
  | cons q rest =>
    rw [e] at hp srt
    have hq : q ∈ fitR n rows := by rw [e]; exact List.mem_cons_self
    show some q = some p
    rcases List.mem_cons.mp hp with z | hp
    · rw [z]
    · exfalso
      have lt := (List.pairwise_cons.mp srt).1 p hp
      rcases h.low q hq with ⟨t, ht⟩ | ⟨a, x, b, y, c, e1, e2, hxy⟩
      · have hk := (mem_fitR'.mp hq).1.len
        rw [ht, List.length_append] at hk
        have : t = [] := List.eq_nil_of_length_eq_zero (by omega)
        rw [this, List.append_nil] at ht
        rw [ht] at lt
        exact lex_asymm lt lt
      · refine lex_asymm lt ?_
        rw [e1, e2]
        exact lex_mid hxy b c a
def ofR : Option (List Int) → D
  | some r => .tup (r.map .int)
  | none => .non
theorem first_ranking_eq {n : Nat} {rows : List (List Nat)} (hn : n ≤ 63) (hr : ∀ row ∈ rows, IsRow n row) : F_first_ranking [.int n, .lst (rows.map .str)] = .ok (.val (ofR (fitR n rows).head?)) := by
  have hz : -1000000 ≤ (n : Int) ∧ (n : Int) ≤ 1000000 := by omega
  refine W_eq (runB_W ?_)
  simp [body_first_ranking]
  refine W_bind.2 (W_while (fun k e => ∃ (p : List Int) (x y : Option S), e = [some (.val (.int n)), some (.val (.lst (rows.map .str))), some (.own (p.map .int)), x, y] ∧ Led n rows p ∧ k = n - p.length) (k := n) ⟨[], _, _, rfl, led_nil n rows, rfl⟩ (by omega) ?_)
  rintro k e ⟨p, x, y, rfl, L, rfl⟩
  have hle := L.le
  by_cases hl : p.length < n
  · simp [hl, hz]
    refine W_bind.2 (W_cf (rng n) .int .int (fun w => w) (fun w => !decide (w ∈ p) && mayB rows p w) (by rw [rangeL_rng, Int.toNat_natCast]) (by rw [rng_len]; omega) ?_ ?_)
    · intro w hw
      have hw' := rng_mem hw
      have em := may_come_eq (n := n) hn hr L.at' (by omega) hw'
      by_cases c : w ∈ p
      · simp [c]
      · cases m : mayB rows p w <;> simp [c, em, m]
    · rw [List.map_id', show (rng n).filter (fun w => !decide (w ∈ p) && mayB rows p w) = free n rows p from rfl]
      by_cases e : free n rows p = []
      · have := free_nil hr L hl e
        simp [e, this, ofR]
      · obtain ⟨w, rest, e'⟩ := List.exists_cons_of_ne_nil e
        have st := led_step hr L hl e'
        have ha : (free n rows p)[0]? = some w := by rw [e']; rfl
        simp [e, ha]
        exact ⟨by omega, n - (p ++ [w]).length, by rw [List.length_append, List.length_singleton]; omega, p ++ [w], by simp, st, rfl⟩
  · have e := first_end L (by omega)
    simp [hl, e, ofR]
end Tg

namespace Tg
open PySem L2
theorem sAug_own {i : Nat} {a k : Ex} {e : En} {ds : List D} {j : Int} {m : Nat} {u v : Int} (hk : k e = .ok (.val (.int j))) (hi : e[i]? = some (some (.own ds))) (hx : ixN ds.length j = some m) (hu : ds[m]? = some (.int u)) (ha : a e = .ok (.val (.int v))) (h0 : 0 ≤ j) :
    sAug i a k e = .ok (.nx (e.set i (some (.own (ds.set m (.int (u + v))))))) := by
  unfold sAug
  rw [hk, hi]
  simp [hx, hu, ha, h0]
theorem how_many_eq {n : Nat} {rows : List (List Nat)} (hn : 1 ≤ n ∧ n ≤ 6) (hr : ∀ row ∈ rows, IsRow n row) : F_how_many [.int n, .lst (rows.map .str)] = .ok (.val (.int (fitR n rows).length)) := by
  have hz : -1000000 ≤ (n : Int) ∧ (n : Int) ≤ 1000000 := by omega
  have hz1 : (0 : Int) ≤ n ∧ (n : Int) ≤ 1000 ∧ (1 : Int).natAbs < 2 ^ 64 := ⟨by omega, by omega, by decide⟩
  have hpow : 2 ^ n ≤ 64 := Nat.le_trans (Nat.pow_le_pow_right (by decide) hn.2) (by decide)
  have hpow1 : 1 ≤ 2 ^ n := Nat.one_le_two_pow
  obtain ⟨P, hP⟩ : ∃ P : Nat, P = 2 ^ n := ⟨_, rfl⟩
  have hPi : (2 : Int) ^ n = (P : Int) := by rw [hP]; simp
  rw [← hP] at hpow hpow1
  have hz2 : -1000000 ≤ (P : Int) ∧ (P : Int) ≤ 1000000 := by omega
  have hrep : List.replicate 4 (none : Option S) = [none, none, none, none] := rfl
  have wll : ∀ b k, (wl n rows b k).length = P := fun b k => by rw [wl_len, hP]
  refine W_eq (runB_W ?_)
  simp [-Int.natCast_pow, -List.reduceReplicate, body_how_many, hz1, hPi, hz2, hrep]
  refine W_bind.2 (W_cm (rng P) .int .int (fun _ => 0) (by rw [rangeL_rng, Int.toNat_natCast]) (by rw [rng_len]; omega) ?_ ?_)
  · intro w hw
    simp
  · have h0 : ((rng P).map fun _ => (0 : Int)).set 0 1 = wl n rows 0 0 := by
      refine List.ext_getElem? fun c => ?_
      by_cases hc : c < P
      · rw [wl_get (by rw [← hP]; exact hc), ways_start]
        by_cases c0 : c = 0
        · subst c0
          rw [List.getElem?_set_self (by rw [List.length_map, rng_len]; exact hc)]
          rfl
        · rw [List.getElem?_set_ne (fun z => c0 z.symm), if_neg c0, List.getElem?_map, List.getElem?_eq_getElem (by rw [rng_len]; exact hc)]
          rfl
      · rw [List.getElem?_eq_none (by rw [List.length_set, List.length_map, rng_len]; omega), List.getElem?_eq_none (by rw [wll]; omega)]
    generalize hA : ((rng P).map fun _ => (0 : Int)) = A at h0
    have hAl : A.length = P := by rw [← hA, List.length_map, rng_len]
    have hi0 : ixN P 0 = some 0 := ixN_of (by omega) (by omega)
    simp [-Int.natCast_pow, -List.map_set, hz1, hPi, hz2, kitem_eq, hAl, hi0]
    rw [show (A.map D.int).set 0 (D.int 1) = (wl n rows 0 0).map D.int by rw [← h0, List.map_set]]
    refine W_bind.2 (W_range (fun b e => ∃ x y z : Option S, e = [some (.val (.int n)), some (.val (.lst (rows.map .str))), x, some (.own ((wl n rows b 0).map .int)), y, z]) ⟨_, _, _, rfl⟩ ?_ ?_)
    · rintro b e hb ⟨x, y, z, rfl⟩
      have hb' : b < P := by omega
      simp [-Int.natCast_pow, hz]
      refine W_bind.2 (W_cf (rng n) .int .int (fun w => w) (fun w => b.testBit w.toNat) (by rw [rangeL_rng, Int.toNat_natCast]) (by rw [rng_len]; omega) ?_ ?_)
      · intro w hw
        have hw' := rng_mem hw
        have e1 : (b : Int) / 2 ^ w.toNat = ((b / 2 ^ w.toNat : Nat) : Int) := by simp
        have e2 := band_one (b / 2 ^ w.toNat)
        have e3 := bit_of b w.toNat
        rw [e3]
        by_cases c : b / 2 ^ w.toNat % 2 = 1
        · simp [-Int.natCast_pow, -Int.natCast_ediv, hw'.1, e1, e2, c]
        · have c' : b / 2 ^ w.toNat % 2 = 0 := by omega
          simp [-Int.natCast_pow, -Int.natCast_ediv, hw'.1, e1, e2, c']
      · rw [List.map_id', show (rng n).filter (fun w => b.testBit w.toNat) = ahead n b from rfl]
        have hah : ∀ v ∈ ahead n b, 0 ≤ v ∧ v < (n : Int) := fun v hv => by
          unfold ahead at hv
          exact rng_mem (List.mem_filter.mp hv).1
        have hal : (ahead n b).length ≤ 1000 := by
          have : (ahead n b).length ≤ n := by
            unfold ahead
            exact Nat.le_trans (List.length_filter_le _ _) (by rw [rng_len]; exact Nat.le_refl _)
          omega
        simp [-Int.natCast_pow, hz]
        refine W_range (fun k e => ∃ z : Option S, e = [some (.val (.int n)), some (.val (.lst (rows.map .str))), some (.val (.int b)), some (.own ((wl n rows b k).map .int)), z, some (.own ((ahead n b).map .int))]) ⟨_, rfl⟩ ?_ ?_
        · rintro k e hk ⟨z, rfl⟩
          have hk' : k < n := by omega
          have g0 : (wl n rows b k)[b]? = some (num n rows b : Int) := by rw [wl_get (by rw [← hP]; exact hb'), ways_num n rows k (Nat.le_refl b)]
          have g1 : atI ((wl n rows b k).map D.int) (b : Int) = some (.int (num n rows b)) := by rw [atI_map, atI_nat', g0]; rfl
          have em := may_come_eq (n := n) (w := (k : Int)) (by omega) hr hah hal (by omega)
          have sm := fun h => wl_same hr (b := b) hk' h
          by_cases c1 : num n rows b = 0
          · have s1 := sm (.inl c1)
            simp [g1, c1, s1]
          · have c1' : 0 < num n rows b := by omega
            by_cases c2 : (k : Int) ∈ ahead n b
            · have s1 := sm (.inr (.inl c2))
              simp [g1, c1, c1', c2, s1]
            · cases c3 : mayB rows (ahead n b) k with
              | false =>
                have s1 := sm (.inr (.inr c3))
                simp [g1, c1, c1', c2, s1, em, c3]
              | true =>
                have s1 := wl_set hr hk' c2 c3
                have hor : b ||| 2 ^ k < P := by rw [hP] at hb' ⊢; exact Nat.or_lt_two_pow hb' (Nat.pow_lt_pow_right (by decide) hk')
                have hbo := bor_nat b (2 ^ k)
                have e5 : (1 : Int) * 2 ^ ((k : Int).toNat) = ((2 ^ k : Nat) : Int) := by rw [Int.toNat_natCast]; simp
                have hz3 : (0 : Int) ≤ k ∧ (k : Int) ≤ 1000 ∧ (1 : Int).natAbs < 2 ^ 64 := ⟨by omega, by omega, by decide⟩
                have hsa := sAug_own (i := 3) (a := eOp2 oItem (eVar 3) (eVar 2)) (k := eOp2 oOr (eVar 2) (eOp2 oShl (eInt 1) (eVar 4))) (e := [some (S.val (D.int ↑n)), some (S.val (D.lst (List.map D.str rows))), some (S.val (D.int ↑b)), some (S.own (List.map D.int (wl n rows b k))), some (S.val (D.int ↑k)), some (S.own (List.map D.int (ahead n b)))]) (ds := (wl n rows b k).map D.int) (j := ((b ||| 2 ^ k : Nat) : Int)) (m := b ||| 2 ^ k) (u := (ways n rows b k (b ||| 2 ^ k) : Int)) (v := (num n rows b : Int))
                  (by simp only [eOp2_eq, eVar_eq]; simp [-Int.natCast_pow, -Int.one_mul, oShl_i, hz3, e5, hbo]; rw [show (1 : Int) * 2 ^ k = ((2 ^ k : Nat) : Int) by simp, hbo]) rfl (by rw [List.length_map, wll, ixN_of (by omega) (by omega)]; simp) (by rw [List.getElem?_map, wl_get (by rw [← hP]; exact hor)]; rfl) (by simp [g1]) (by omega)
                simp [g1, c1, c1', c2, em, c3]
                rw [hsa, s1]
                exact ⟨_, by rw [List.map_set]; rfl⟩
        · rintro e ⟨z, rfl⟩
          simp [ways_next, wl]
    · rintro e ⟨x, y, z, rfl⟩
      have hl1 : (wl n rows P 0).map D.int ≠ [] := fun z => by have := congrArg List.length z; rw [List.length_map, wll] at this; simp at this; omega
      have g2 : atI ((wl n rows P 0).map D.int) (-1) = some (.int (num n rows (P - 1))) := by
        unfold atI ixN
        rw [if_neg (by decide), List.length_map, wll, if_pos (by omega)]
        show ((wl n rows P 0).map D.int)[((P : Int) + -1).toNat]? = _
        rw [show ((P : Int) + -1).toNat = P - 1 by omega, List.getElem?_map, wl_get (by rw [← hP]; omega), ways_num n rows 0 (by omega)]
        rfl
      have g3 : num n rows (P - 1) = (fitR n rows).length := by rw [hP]; exact num_full n rows
      rw [Int.toNat_natCast]
      simp [g2, g3]
end Tg

namespace Tg
open PySem L2
/-! kinds of tongue, in plain words -/
abbrev Wss := List (List (List Int))
def tong (W : Wss) (r : List Int) : List (List Int) := W.map fun ws => bestL ws r
def alike (ws : List (List Int)) (i : Int) : List Int := (rng ws.length).filter fun k => decide (say ws k = say ws i)
def chR (ws : List (List Int)) (i : Int) : List (List Nat) := ws.map (rowOf (say ws i))
def isNew (ws : List (List Int)) (i : Int) : Bool := !decide (say ws i ∈ ws.take i.toNat)
theorem eqOn_eq {n : Nat} {r a b : List Int} (hr : IsRk n r) (ha : a.length = n) (hb : b.length = n) (h : eqOn a b r = true) : a = b := by
  refine List.ext_getElem (ha.trans hb.symm) fun i h1 h2 => ?_
  unfold eqOn at h
  rw [List.all_eq_true] at h
  have q := h (i : Int) (hr.has (by omega) (by omega))
  rw [beq_iff_eq] at q
  unfold nth at q
  rw [show ((i : Int)).toNat = i by omega, List.getElem?_eq_getElem h1, List.getElem?_eq_getElem h2] at q
  exact q
theorem minB_say {ws : List (List Int)} {r : List Int} {i k : Int} (h : say ws k = say ws i) : minB ws r k = minB ws r i := by unfold minB; rw [h]
theorem best_alike {n : Nat} {ws : List (List Int)} {r : List Int} {i : Int} (hr : IsRk n r) (hw : ∀ w ∈ ws, w.length = n) (hi : i ∈ bestL ws r) : bestL ws r = alike ws i := by
  have hi' := mem_bestL.mp hi
  unfold bestL alike
  refine List.filter_congr fun k hk => ?_
  have hk' := rng_mem hk
  rw [Bool.eq_iff_iff, decide_eq_true_eq]
  constructor
  · intro hm
    have m1 := minB_iff.mp hm _ (say_mem hi'.1.1 hi'.1.2)
    have m2 := minB_iff.mp hi'.2 _ (say_mem hk'.1 hk'.2)
    rcases beats_tri (say ws i) (say ws k) r with q | q | q
    · rw [m1] at q; cases q
    · rw [m2] at q; cases q
    · exact (eqOn_eq hr (hw _ (say_mem hi'.1.1 hi'.1.2)) (hw _ (say_mem hk'.1 hk'.2)) q).symm
  · intro e
    rw [minB_say e]
    exact hi'.2
theorem mem_alike {ws : List (List Int)} {i k : Int} : k ∈ alike ws i ↔ (0 ≤ k ∧ k < ws.length) ∧ say ws k = say ws i := by
  unfold alike
  rw [List.mem_filter, decide_eq_true_eq]
  exact ⟨fun h => ⟨rng_mem h.1, h.2⟩, fun h => ⟨mem_rng h.1.1 h.1.2, h.2⟩⟩
theorem chR_mem {n : Nat} {ws : List (List Int)} (hw : ∀ w ∈ ws, w.length = n) {i : Int} (hi : 0 ≤ i ∧ i < ws.length) {r : List Int} (hr : IsRk n r) : fitAll (chR ws i) r = true ↔ i ∈ bestL ws r := by
  have fb : ∀ o ∈ ws, fitsB (rowOf (say ws i) o) r = !beatsB o (say ws i) r := fun o ho => fits_beats (hw _ (say_mem hi.1 hi.2)) (hw o ho) r fun w h => hr.mem h
  unfold fitAll chR
  rw [List.all_eq_true, mem_bestL, minB_iff]
  constructor
  · intro h
    refine ⟨hi, fun o ho => ?_⟩
    have q := h _ (List.mem_map.mpr ⟨o, ho, rfl⟩)
    rw [fb o ho] at q
    simpa using q
  · rintro ⟨_, h⟩ q hq
    obtain ⟨o, ho, rfl⟩ := List.mem_map.mp hq
    rw [fb o ho, h o ho]
    rfl
theorem chR_fit {n : Nat} {ws : List (List Int)} (hw : ∀ w ∈ ws, w.length = n) {i : Int} (hi : 0 ≤ i ∧ i < ws.length) {r : List Int} (hr : IsRk n r) : fitAll (chR ws i) r = true ↔ bestL ws r = alike ws i := by
  rw [chR_mem hw hi hr]
  exact ⟨best_alike hr hw, fun e => by rw [e]; exact mem_alike.mpr ⟨hi, rfl⟩⟩
theorem chR_row {n : Nat} {ws : List (List Int)} (hw : ∀ w ∈ ws, w.length = n) {i : Int} (hi : 0 ≤ i ∧ i < ws.length) : ∀ q ∈ chR ws i, IsRow n q := fun q hq => by
  obtain ⟨o, ho, rfl⟩ := List.mem_map.mp hq
  exact rowOf_row (hw _ (say_mem hi.1 hi.2)) (hw o ho)
theorem mem_take_say {ws : List (List Int)} {i : Int} (h0 : 0 ≤ i) (h1 : i < ws.length) {w : List Int} : w ∈ ws.take i.toNat ↔ ∃ j : Int, 0 ≤ j ∧ j < i ∧ say ws j = w := by
  constructor
  · intro h
    obtain ⟨j, hj, e⟩ := List.mem_iff_getElem.mp h
    rw [List.length_take] at hj
    rw [List.getElem_take] at e
    refine ⟨(j : Int), by omega, by omega, ?_⟩
    unfold say
    rw [show ((j : Int)).toNat = j by omega, List.getElem?_eq_getElem (by omega)]
    exact e
  · rintro ⟨j, a, b, rfl⟩
    have hj : j.toNat < ws.length := by omega
    have q : (ws.take i.toNat)[j.toNat]? = some (say ws j) := by
      rw [List.getElem?_take_of_lt (by omega), List.getElem?_eq_getElem hj]
      unfold say
      rw [List.getElem?_eq_getElem hj]
      rfl
    exact List.mem_of_getElem? q
/-- the first place of a saying -/
theorem new_of {ws : List (List Int)} : ∀ (m : Nat) (k : Int), k.toNat = m → 0 ≤ k → k < ws.length → ∃ i : Int, (0 ≤ i ∧ i < ws.length) ∧ isNew ws i = true ∧ say ws i = say ws k := by
  intro m
  induction m using Nat.strongRecOn with
  | ind m ih =>
    intro k hm h0 h1
    cases c : isNew ws k with
    | true => exact ⟨k, ⟨h0, h1⟩, c, rfl⟩
    | false =>
      unfold isNew at c
      have c' : say ws k ∈ ws.take k.toNat := by simpa using c
      obtain ⟨j, a, b, e⟩ := (mem_take_say h0 h1).mp c'
      obtain ⟨i, hi, hn, e2⟩ := ih j.toNat (by omega) j rfl a (by omega)
      exact ⟨i, hi, hn, e2.trans e⟩
theorem new_ne {ws : List (List Int)} {i j : Int} (hi : 0 ≤ i ∧ i < ws.length) (hj : 0 ≤ j ∧ j < ws.length) (hij : i < j) (nj : isNew ws j = true) : alike ws i ≠ alike ws j := fun e => by
  have hm : i ∈ alike ws j := by rw [← e]; exact mem_alike.mpr ⟨hi, rfl⟩
  have q := (mem_alike.mp hm).2
  unfold isNew at nj
  have nj' : say ws j ∉ ws.take j.toNat := by simpa using nj
  exact nj' ((mem_take_say hj.1 hj.2).mpr ⟨i, hi.1, hij, q⟩)
/-! the kinds that are told so far, each with its rows -/
abbrev Kd := List (List Int) × List (List Nat)
def pick (n : Nat) (ws : List (List Int)) (p : Kd) (i : Int) : Bool := isNew ws i && !(fitR n (p.2 ++ chR ws i)).isEmpty
def addK (ws : List (List Int)) (p : Kd) (i : Int) : Kd := (p.1 ++ [alike ws i], p.2 ++ chR ws i)
def grow1 (n : Nat) (ws : List (List Int)) (p : Kd) : List Kd := ((rng ws.length).filter (pick n ws p)).map (addK ws p)
structure KOk (n : Nat) (W : Wss) (K : List Kd) : Prop where
  row : ∀ p ∈ K, ∀ q ∈ p.2, IsRow n q
  len : ∀ p ∈ K, p.2.length ≤ 5 * W.length
  fit : ∀ p ∈ K, ∀ r, IsRk n r → (fitAll p.2 r = true ↔ tong W r = p.1)
  ex : ∀ p ∈ K, ∃ r, IsRk n r ∧ tong W r = p.1
  all : ∀ r, IsRk n r → ∃ p ∈ K, tong W r = p.1
  nd : (K.map (·.1)).Nodup
theorem rk_rng (n : Nat) : IsRk n (rng n) := List.Perm.refl _
theorem KOk.nil (n : Nat) : KOk n [] [([], [])] where
  row := fun p hp q hq => by rw [List.mem_singleton.mp hp] at hq; cases hq
  len := fun p hp => by rw [List.mem_singleton.mp hp]; exact Nat.le_refl _
  fit := fun p hp r _ => by rw [List.mem_singleton.mp hp]; exact ⟨fun _ => rfl, fun _ => rfl⟩
  ex := fun p hp => ⟨rng n, rk_rng n, by rw [List.mem_singleton.mp hp]; rfl⟩
  all := fun r _ => ⟨_, List.mem_singleton.mpr rfl, rfl⟩
  nd := List.nodup_cons.mpr ⟨List.not_mem_nil, List.nodup_nil⟩
theorem fitAll_app (a b : List (List Nat)) (r : List Int) : fitAll (a ++ b) r = (fitAll a r && fitAll b r) := by
  unfold fitAll
  rw [List.all_append]
theorem tong_snoc (W : Wss) (ws : List (List Int)) (r : List Int) : tong (W ++ [ws]) r = tong W r ++ [bestL ws r] := by
  unfold tong
  rw [List.map_append]
  rfl
theorem snoc_inj {α : Type} {a b : List α} {x y : α} : a ++ [x] = b ++ [y] ↔ a = b ∧ x = y := by
  constructor
  · intro h
    have := List.append_inj' h rfl
    exact ⟨this.1, (List.cons.inj this.2).1⟩
  · rintro ⟨rfl, rfl⟩; rfl
theorem mem_grow {n : Nat} {ws : List (List Int)} {K : List Kd} {q : Kd} : q ∈ K.flatMap (grow1 n ws) ↔ ∃ p ∈ K, ∃ i : Int, (0 ≤ i ∧ i < ws.length) ∧ isNew ws i = true ∧ fitR n (p.2 ++ chR ws i) ≠ [] ∧ q = addK ws p i := by
  rw [List.mem_flatMap]
  constructor
  · rintro ⟨p, hp, hq⟩
    obtain ⟨i, hi, rfl⟩ := List.mem_map.mp hq
    rw [List.mem_filter] at hi
    have h2 := hi.2
    unfold pick at h2
    rw [Bool.and_eq_true] at h2
    exact ⟨p, hp, i, rng_mem hi.1, h2.1, by simpa using h2.2, rfl⟩
  · rintro ⟨p, hp, i, hi, h1, h2, rfl⟩
    refine ⟨p, hp, List.mem_map.mpr ⟨i, List.mem_filter.mpr ⟨mem_rng hi.1 hi.2, ?_⟩, rfl⟩⟩
    unfold pick
    rw [Bool.and_eq_true]
    exact ⟨h1, by simpa using h2⟩
theorem KOk.step {n : Nat} {W : Wss} {K : List Kd} (k : KOk n W K) {ws : List (List Int)} (h1 : 1 ≤ ws.length) (h5 : ws.length ≤ 5) (hw : ∀ w ∈ ws, w.length = n) : KOk n (W ++ [ws]) (K.flatMap (grow1 n ws)) := by
  have fit : ∀ p ∈ K, ∀ i : Int, 0 ≤ i ∧ i < ws.length → ∀ r, IsRk n r → (fitAll (p.2 ++ chR ws i) r = true ↔ tong (W ++ [ws]) r = p.1 ++ [alike ws i]) := fun p hp i hi r hr => by
    rw [fitAll_app, Bool.and_eq_true, k.fit p hp r hr, chR_fit hw hi hr, tong_snoc, snoc_inj]
  refine ⟨?_, ?_, ?_, ?_, ?_, ?_⟩
  · rintro q hq x hx
    obtain ⟨p, hp, i, hi, _, _, rfl⟩ := mem_grow.mp hq
    rcases List.mem_append.mp hx with hx | hx
    · exact k.row p hp x hx
    · exact chR_row hw hi x hx
  · rintro q hq
    obtain ⟨p, hp, i, hi, _, _, rfl⟩ := mem_grow.mp hq
    have := k.len p hp
    show (p.2 ++ chR ws i).length ≤ _
    unfold chR
    rw [List.length_append, List.length_append, List.length_map, List.length_singleton]
    omega
  · rintro q hq r hr
    obtain ⟨p, hp, i, hi, _, _, rfl⟩ := mem_grow.mp hq
    exact fit p hp i hi r hr
  · rintro q hq
    obtain ⟨p, hp, i, hi, _, hne, rfl⟩ := mem_grow.mp hq
    obtain ⟨r, hr⟩ := List.exists_mem_of_ne_nil _ hne
    obtain ⟨hk, hf⟩ := mem_fitR'.mp hr
    exact ⟨r, hk, (fit p hp i hi r hk).mp hf⟩
  · intro r hr
    obtain ⟨p, hp, e⟩ := k.all r hr
    obtain ⟨j, hj⟩ := best_ne (ws := ws) (by omega) r
    have hj' := mem_bestL.mp hj
    obtain ⟨i, hi, hn, es⟩ := new_of j.toNat j rfl hj'.1.1 hj'.1.2
    have hib : i ∈ bestL ws r := mem_bestL.mpr ⟨hi, by rw [minB_say es]; exact hj'.2⟩
    have ht : tong (W ++ [ws]) r = p.1 ++ [alike ws i] := by rw [tong_snoc, e, best_alike hr hw hib]
    have hm : r ∈ fitR n (p.2 ++ chR ws i) := mem_fitR'.mpr ⟨hr, (fit p hp i hi r hr).mpr ht⟩
    exact ⟨_, mem_grow.mpr ⟨p, hp, i, hi, hn, (fun z => by rw [z] at hm; cases hm), rfl⟩, ht⟩
  · unfold List.Nodup
    rw [List.pairwise_map, List.pairwise_flatMap]
    refine ⟨fun p _ => ?_, ?_⟩
    · unfold grow1
      rw [List.pairwise_map]
      refine ((rng_lt ws.length).filter _).imp_of_mem fun {i j} hi hj hij e => ?_
      rw [List.mem_filter] at hi hj
      have nj := hj.2
      unfold pick at nj
      rw [Bool.and_eq_true] at nj
      exact new_ne (rng_mem hi.1) (rng_mem hj.1) hij nj.1 (snoc_inj.mp e).2
    · have nd := k.nd
      unfold List.Nodup at nd
      rw [List.pairwise_map] at nd
      refine nd.imp fun {p q} hpq a ha b hb e => ?_
      obtain ⟨i, _, rfl⟩ := List.mem_map.mp ha
      obtain ⟨j, _, rfl⟩ := List.mem_map.mp hb
      exact hpq (snoc_inj.mp e).1
theorem KOk.few {n : Nat} {W : Wss} {K : List Kd} (k : KOk n W K) : K.length ≤ (allR n n).length := by
  have h : K.length = (K.map (·.1)).length := by rw [List.length_map]
  rw [h, ← List.length_map (f := tong W) (as := allR n n)]
  refine k.nd.length_le_of_subset fun t ht => ?_
  obtain ⟨p, hp, rfl⟩ := List.mem_map.mp ht
  obtain ⟨r, hr, e⟩ := k.ex p hp
  exact List.mem_map.mpr ⟨r, rk_allR hr, e⟩
theorem KOk.tl {n : Nat} {W : Wss} {K : List Kd} (k : KOk n W K) : ∀ p ∈ K, p.1.length = W.length := fun p hp => by
  obtain ⟨r, _, e⟩ := k.ex p hp
  rw [← e]
  unfold tong
  rw [List.length_map]
theorem allR_720 {n : Nat} (h : n ≤ 6) : (allR n n).length ≤ 720 := by
  have e : n = 0 ∨ n = 1 ∨ n = 2 ∨ n = 3 ∨ n = 4 ∨ n = 5 ∨ n = 6 := by omega
  obtain ⟨l1, l2, l3, l4, l5, l6⟩ := allR_len
  rcases e with e | e | e | e | e | e | e <;> subst e
  · exact (by decide : (1 : Nat) ≤ 720)
  · rw [l1]; decide
  · rw [l2]; decide
  · rw [l3]; decide
  · rw [l4]; decide
  · rw [l5]; decide
  · rw [l6]; decide
/-! the tongues in the order of their first rankings -/
theorem snoc_ind {α : Type} {P : List α → Prop} (h0 : P []) (h1 : ∀ l x, P l → P (l ++ [x])) (l : List α) : P l := by
  have go : ∀ m : List α, P m.reverse := fun m => by
    induction m with
    | nil => exact h0
    | cons x m ih => rw [List.reverse_cons]; exact h1 _ _ ih
  have := go l.reverse
  rwa [List.reverse_reverse] at this
def keyS (W : Wss) (ks : List (List (List Int))) (r : List Int) : List (List (List Int)) := if tong W r ∈ ks then ks else ks ++ [tong W r]
def keysL (W : Wss) (L : List (List Int)) : List (List (List Int)) := L.foldl (keyS W) []
theorem keysL_snoc (W : Wss) (L : List (List Int)) (r : List Int) : keysL W (L ++ [r]) = if tong W r ∈ keysL W L then keysL W L else keysL W L ++ [tong W r] := by
  unfold keysL
  rw [List.foldl_append]
  rfl
theorem mem_keysL {W : Wss} : ∀ (L : List (List Int)) (t : List (List Int)), t ∈ keysL W L ↔ ∃ r ∈ L, tong W r = t := by
  refine snoc_ind (fun t => ?_) fun L r ih t => ?_
  · exact ⟨fun h => (by cases h), fun ⟨r, h, _⟩ => (by cases h)⟩
  · rw [keysL_snoc]
    split
    · rename_i c
      rw [ih]
      constructor
      · rintro ⟨x, hx, e⟩; exact ⟨x, List.mem_append.mpr (.inl hx), e⟩
      · rintro ⟨x, hx, e⟩
        rcases List.mem_append.mp hx with hx | hx
        · exact ⟨x, hx, e⟩
        · rw [List.mem_singleton.mp hx] at e
          rw [← e]
          exact (ih _).mp c
    · rename_i c
      rw [List.mem_append, ih, List.mem_singleton]
      constructor
      · rintro (⟨x, hx, e⟩ | e)
        · exact ⟨x, List.mem_append.mpr (.inl hx), e⟩
        · exact ⟨r, by simp, e.symm⟩
      · rintro ⟨x, hx, e⟩
        rcases List.mem_append.mp hx with hx | hx
        · exact .inl ⟨x, hx, e⟩
        · rw [List.mem_singleton.mp hx] at e; exact .inr e.symm
theorem keysL_nodup {W : Wss} : ∀ L : List (List Int), (keysL W L).Nodup := by
  refine snoc_ind List.nodup_nil fun L r ih => ?_
  rw [keysL_snoc]
  split
  · exact ih
  · rename_i c
    rw [List.nodup_append]
    exact ⟨ih, List.nodup_cons.mpr ⟨List.not_mem_nil, List.nodup_nil⟩, fun x hx y hy e => c (by rw [List.mem_singleton.mp hy] at e; rw [← e]; exact hx)⟩
/-- those of L that have a tongue -/
def haveT (W : Wss) (L : List (List Int)) (t : List (List Int)) : List (List Int) := L.filter fun r => decide (tong W r = t)
def frst (W : Wss) (L : List (List Int)) (t : List (List Int)) : List Int := (haveT W L t).headD []
def cnt (W : Wss) (L : List (List Int)) (t : List (List Int)) : Nat := (haveT W L t).length
theorem haveT_snoc (W : Wss) (L : List (List Int)) (r : List Int) (t : List (List Int)) : haveT W (L ++ [r]) t = haveT W L t ++ if tong W r = t then [r] else [] := by
  unfold haveT
  rw [filter_snoc]
  simp only [decide_eq_true_eq]
theorem haveT_nil {W : Wss} {L : List (List Int)} {t : List (List Int)} : haveT W L t = [] ↔ t ∉ keysL W L := by
  unfold haveT
  rw [List.filter_eq_nil_iff, mem_keysL]
  constructor
  · rintro h ⟨r, hr, e⟩
    exact h r hr (decide_eq_true e)
  · intro h r hr e
    exact h ⟨r, hr, of_decide_eq_true e⟩
theorem frst_mem {W : Wss} {L : List (List Int)} {t : List (List Int)} (h : t ∈ keysL W L) : frst W L t ∈ L ∧ tong W (frst W L t) = t := by
  have hne : haveT W L t ≠ [] := fun z => haveT_nil.mp z h
  obtain ⟨x, xs, e⟩ := List.exists_cons_of_ne_nil hne
  have hx : x ∈ haveT W L t := by rw [e]; exact List.mem_cons_self
  unfold haveT at hx
  rw [List.mem_filter, decide_eq_true_eq] at hx
  unfold frst
  rw [e]
  exact hx
theorem frst_old {W : Wss} {L : List (List Int)} {r : List Int} {t : List (List Int)} (h : t ∈ keysL W L) : frst W (L ++ [r]) t = frst W L t := by
  have hne : haveT W L t ≠ [] := fun z => haveT_nil.mp z h
  obtain ⟨x, xs, e⟩ := List.exists_cons_of_ne_nil hne
  unfold frst
  rw [haveT_snoc, e]
  rfl
theorem frst_new {W : Wss} {L : List (List Int)} {r : List Int} (h : tong W r ∉ keysL W L) : frst W (L ++ [r]) (tong W r) = r := by
  unfold frst
  rw [haveT_snoc, haveT_nil.mpr h, if_pos rfl]
  rfl
theorem cnt_snoc {W : Wss} {L : List (List Int)} {r : List Int} {t : List (List Int)} : cnt W (L ++ [r]) t = cnt W L t + if tong W r = t then 1 else 0 := by
  unfold cnt
  rw [haveT_snoc, List.length_append]
  split <;> rfl
theorem cnt_zero {W : Wss} {L : List (List Int)} {t : List (List Int)} (h : t ∉ keysL W L) : cnt W L t = 0 := by
  unfold cnt
  rw [haveT_nil.mpr h]
  rfl
theorem keysL_up {W : Wss} : ∀ L : List (List Int), L.Pairwise (fun p q => HT.lexLt p q = true) → (keysL W L).Pairwise fun t u => HT.lexLt (frst W L t) (frst W L u) = true := by
  refine snoc_ind (fun _ => List.Pairwise.nil) fun L r ih h => ?_
  rw [List.pairwise_append] at h
  have old : (keysL W L).Pairwise fun t u => HT.lexLt (frst W (L ++ [r]) t) (frst W (L ++ [r]) u) = true := (ih h.1).imp_of_mem fun {t u} ht hu q => by rw [frst_old ht, frst_old hu]; exact q
  rw [keysL_snoc]
  split
  · exact old
  · rename_i c
    rw [List.pairwise_append]
    refine ⟨old, List.pairwise_singleton _ _, fun t ht u hu => ?_⟩
    rw [List.mem_singleton.mp hu, frst_new c, frst_old ht]
    exact h.2.2 _ (frst_mem ht).1 r (List.mem_singleton.mpr rfl)
/-! what is told: the rows, sorted -/
abbrev Tks (W : Wss) (n : Nat) : List (List (List Int)) := keysL W (allR n n)
def entD (W : Wss) (n : Nat) (t : List (List Int)) : D := .tup [tD t, tnum (frst W (allR n n) t), .int (cnt W (allR n n) t)]
theorem fitR_haveT {n : Nat} {W : Wss} {K : List Kd} (k : KOk n W K) {p : Kd} (hp : p ∈ K) : fitR n p.2 = haveT W (allR n n) p.1 := by
  unfold fitR haveT
  refine List.filter_congr fun r hr => ?_
  rw [Bool.eq_iff_iff, decide_eq_true_eq]
  exact k.fit p hp r (allR_rk hr)
theorem kd_key {n : Nat} {W : Wss} {K : List Kd} (k : KOk n W K) {p : Kd} (hp : p ∈ K) : p.1 ∈ Tks W n := by
  obtain ⟨r, hr, e⟩ := k.ex p hp
  exact (mem_keysL _ _).mpr ⟨r, rk_allR hr, e⟩
theorem keys_perm {n : Nat} {W : Wss} {K : List Kd} (k : KOk n W K) : (K.map (·.1)).Perm (Tks W n) := by
  rw [List.perm_ext_iff_of_nodup k.nd (keysL_nodup _)]
  intro t
  constructor
  · intro h
    obtain ⟨p, hp, rfl⟩ := List.mem_map.mp h
    exact kd_key k hp
  · intro h
    obtain ⟨r, hr, e⟩ := (mem_keysL _ _).mp h
    obtain ⟨p, hp, e2⟩ := k.all r (allR_rk hr)
    exact List.mem_map.mpr ⟨p, hp, e2.symm.trans e⟩
theorem lex_lt : ∀ {p q : List Int}, HT.lexLt p q = true → p.length = q.length → p < q
  | [], [], h, _ => by cases h
  | [], _ :: _, _, h => by cases h
  | _ :: _, [], _, h => by cases h
  | x :: p, y :: q, h, hl => by
    have h : (if x = y then HT.lexLt p q else decide (x < y)) = true := h
    rw [List.cons_lt_cons_iff]
    by_cases e : x = y
    · rw [if_pos e] at h
      exact .inr ⟨e, lex_lt h (by simpa using hl)⟩
    · rw [if_neg e] at h
      exact .inl (of_decide_eq_true h)
theorem filterMap_intD (xs : List Int) : (xs.map D.int).filterMap intD = xs := by
  induction xs with
  | nil => rfl
  | cons x xs ih => rw [List.map_cons, List.filterMap_cons_some (show intD (D.int x) = some x from rfl), ih]
theorem keyI_ent (W : Wss) (n : Nat) (t : List (List Int)) : keyI (entD W n t) = frst W (allR n n) t := filterMap_intD _
theorem sortK_ents {n : Nat} {W : Wss} {K : List Kd} (k : KOk n W K) : sortK (K.map fun p => entD W n p.1) = (Tks W n).map (entD W n) := by
  have hp : (sortK (K.map fun p => entD W n p.1)).Perm ((Tks W n).map (entD W n)) := by
    refine (List.mergeSort_perm _ _).trans ?_
    have := (keys_perm k).map (entD W n)
    rwa [List.map_map] at this
  have tr : ∀ a b c : D, leKey a b = true → leKey b c = true → leKey a c = true := fun a b c h1 h2 => decide_eq_true (List.le_trans (of_decide_eq_true h1) (of_decide_eq_true h2))
  have tot : ∀ a b : D, (leKey a b || leKey b a) = true := fun a b => by
    rw [Bool.or_eq_true]
    exact (List.le_total (keyI a) (keyI b)).imp (fun h => decide_eq_true h) (fun h => decide_eq_true h)
  have up : (Tks W n).Pairwise fun t u => leKey (entD W n t) (entD W n u) = true := by
    refine (keysL_up _ (allR_lex n n)).imp_of_mem fun {t u} ht hu q => ?_
    have l1 := (allR_mem (frst_mem ht).1).1
    have l2 := (allR_mem (frst_mem hu).1).1
    unfold leKey
    rw [keyI_ent, keyI_ent]
    exact decide_eq_true (List.le_of_lt (lex_lt q (l1.trans l2.symm)))
  refine List.Perm.eq_of_pairwise (le := fun a b => leKey a b = true) (fun a b ha hb h1 h2 => ?_) (List.pairwise_mergeSort tr tot _) (List.pairwise_map.mpr up) hp
  obtain ⟨t, ht, rfl⟩ := List.mem_map.mp (hp.mem_iff.mp ha)
  obtain ⟨u, hu, rfl⟩ := List.mem_map.mp hb
  have e : frst W (allR n n) t = frst W (allR n n) u := by
    rw [← keyI_ent, ← keyI_ent]
    exact List.le_antisymm (of_decide_eq_true h1) (of_decide_eq_true h2)
  have : t = u := by rw [← (frst_mem ht).2, e, (frst_mem hu).2]
  rw [this]
theorem tks_few {n : Nat} (W : Wss) (h : n ≤ 6) : (Tks W n).length ≤ 720 := by
  refine Nat.le_trans ?_ (allR_720 h)
  rw [← List.length_map (f := tong W) (as := allR n n)]
  refine (keysL_nodup _).length_le_of_subset fun t ht => ?_
  obtain ⟨r, hr, e⟩ := (mem_keysL _ _).mp ht
  exact List.mem_map.mpr ⟨r, hr, e⟩
end Tg

namespace Tg
open PySem L2
/-! tongues: the program's run -/
def kdD (p : Kd) : D := .tup [tD p.1, .lst (p.2.map .str)]
theorem rows_of_choice_eq {n : Nat} {ws : List (List Int)} (hn : n ≤ 1000) (hl : ws.length ≤ 1000) (hw : ∀ w ∈ ws, w.length = n) {i : Int} (hi : 0 ≤ i ∧ i < ws.length) : F_rows_of_choice [words ws, .int i] = .ok (.own ((chR ws i).map .str)) := by
  have hat := say_at hi.1 hi.2
  refine W_eq (runB_W ?_)
  simp [-List.map_map, body_rows_of_choice, words]
  refine W_bind.2 (W_cm ws tnum .str (rowOf (say ws i)) rfl (by omega) ?_ ?_)
  · intro o ho
    have hsl : (say ws i).length = n := hw _ (say_mem hi.1 hi.2)
    have e1 := row_of_eq (a := say ws i) (b := o) (by rw [hsl, hw o ho]) (by omega)
    simp [hat, e1]
  · simp [chR]
end Tg

namespace Tg
open PySem L2
theorem rng_at {n i : Nat} (h : i < n) : (rng n)[i]? = some (i : Int) := by
  unfold rng
  rw [List.getElem?_map, List.getElem?_eq_getElem (by rw [List.length_range]; exact h), List.getElem_range]
  rfl
theorem fitR_non (n : Nat) (rows : List (List Nat)) : isNon (ofR (fitR n rows).head?) = (fitR n rows).isEmpty := by cases fitR n rows <;> rfl
theorem grow_len {n : Nat} {pre : Wss} {ws : List (List Int)} {K : List Kd} (hn : n ≤ 6) (k : KOk n pre K) (h1 : 1 ≤ ws.length) (h5 : ws.length ≤ 5) (hw : ∀ w ∈ ws, w.length = n) {a b : List Kd} {p : Kd} (hK : K = a ++ p :: b) (i : Nat) :
    (a.flatMap (grow1 n ws)).length + (((rng ws.length).take i).filter (pick n ws p)).length ≤ 720 := by
  have h := Nat.le_trans (k.step h1 h5 hw).few (allR_720 hn)
  rw [hK, List.flatMap_append, List.flatMap_cons, List.length_append, List.length_append] at h
  have h2 : (((rng ws.length).take i).filter (pick n ws p)).length ≤ (grow1 n ws p).length := by
    unfold grow1
    rw [List.length_map]
    exact ((List.take_sublist _ _).filter _).length_le
  omega
theorem kd_flat (xs : List Kd) (h : xs ≠ []) : D.flatL (xs.map kdD) = false := by
  obtain ⟨x, r, rfl⟩ := List.exists_cons_of_ne_nil h
  rw [List.map_cons, flatL_cons]
  simp [kdD]
def B_in : Sx := (sIf (tVal (eOp2 oNotIn (eOp2 oItem (eVar 3) (eVar 7)) (eSl (eVar 3) pNone (pSome (eVar 7))))) (sSeq (sSet [6] 8 (eOp2 oAdd (eVar 6) (eCall F_rows_of_choice (aCons (eVar 3) (aCons (eVar 7) aNil)))))
  (sSeq (sSet [11] 9 (eOp1 oTuple (eComp [] [11] (aRange1 (eOp1 oLen (eVar 3))) (gName 11) (tVal (eOp2 oEq (eOp2 oItem (eVar 3) (eVar 11)) (eOp2 oItem (eVar 3) (eVar 7)))) (eVar 11))))
  (sIf (tVal (eOp1 oNotN (eCall F_first_ranking (aCons (eVar 0) (aCons (eVar 8) aNil))))) (sOwn [5, 9, 8] 4 fAppend (eTup (aCons (eOp2 oAdd (eVar 5) (eTup (aCons (eVar 9) aNil))) (aCons (eVar 8) aNil)))) sNop))) sNop)
/-- one number of a word: perhaps one kind more -/
theorem in_step {n : Nat} {ws : List (List Int)} {p : Kd} {A : List Kd} {i : Nat} (hn : n ≤ 6) (h5 : ws.length ≤ 5) (hw : ∀ w ∈ ws, w.length = n) (hi : i < ws.length) (hA : A.length ≤ 720) (hp1 : p.1.length ≤ 3) (hp2 : p.2.length ≤ 15) (hpr : ∀ q ∈ p.2, IsRow n q) (s1 s2 : Option S) (x7 x8 x9 x11 : Option S) {E : D → Prop} :
    W (B_in [some (.val (.int n)), s1, s2, some (.val (words ws)), some (.own (A.map kdD)), some (.val (tD p.1)), some (.val (.lst (p.2.map .str))), some (.val (.int (i : Int))), x8, x9, none, x11])
      (PQ (fun e => ∃ (x8 x9 x11 : Option S), e = [some (.val (.int n)), s1, s2, some (.val (words ws)), some (.own ((A ++ if pick n ws p i = true then [addK ws p i] else []).map kdD)), some (.val (tD p.1)), some (.val (.lst (p.2.map .str))), some (.val (.int (i : Int))), x8, x9, none, x11]) fun _ => False) E := by
  have hii : (0 : Int) ≤ i ∧ (i : Int) < ws.length := by omega
  have hat := say_at (ws := ws) hii.1 hii.2
  rw [atI_nat'] at hat
  have hcut : cutL (ws.map tnum) none (some (i : Int)) = (ws.take i).map tnum := by rw [cut_to hii.1, Int.toNat_natCast, List.map_take]
  have e1 := oNotIn_tt (say ws i) (ws.take i)
  have hz : -1000000 ≤ (ws.length : Int) ∧ (ws.length : Int) ≤ 1000000 := by omega
  have hnw : isNew ws i = !decide (say ws i ∈ ws.take i) := by unfold isNew; rw [Int.toNat_natCast]
  by_cases c : say ws i ∈ ws.take i
  · have hpk : pick n ws p i = false := by unfold pick; rw [hnw, decide_eq_true c]; rfl
    simp [-List.map_take, -List.map_map, B_in, words, hat, hcut, e1, c, hpk]
  · have e2 := rows_of_choice_eq (n := n) (ws := ws) (by omega) (by omega) hw hii
    rw [words] at e2
    have hrow : ∀ q ∈ p.2 ++ chR ws i, IsRow n q := fun q hq => by
      rcases List.mem_append.mp hq with hq | hq
      · exact hpr q hq
      · exact chR_row hw hii q hq
    have hcl : (chR ws i).length ≤ 5 := by unfold chR; rw [List.length_map]; exact h5
    have e3 := first_ranking_eq (n := n) (rows := p.2 ++ chR ws i) (by omega) hrow
    have hs1 : p.2.length + (chR ws i).length ≤ 65536 := by omega
    have hal : (alike ws i).length ≤ 5 := by
      unfold alike
      refine Nat.le_trans (List.length_filter_le _ _) ?_
      rw [rng_len]; exact h5
    simp [-List.map_take, -List.map_map, B_in, words, hat, hcut, e1, c, e2, hs1, hz]
    refine W_bind.2 (W_cf (rng ws.length) .int .int (fun k => k) (fun k => decide (say ws k = say ws i)) (by rw [rangeL_rng, Int.toNat_natCast]) (by rw [rng_len]; omega) ?_ ?_)
    · intro k hk
      have hk' := rng_mem hk
      have hk2 := say_at hk'.1 hk'.2
      by_cases d : say ws k = say ws i <;> simp [hat, hk2, tnum, d]
    · rw [List.map_id', show (rng ws.length).filter (fun k => decide (say ws k = say ws i)) = alike ws i from rfl]
      rw [List.map_append] at e3
      have hhd := fitR_non n (p.2 ++ chR ws i)
      cases hh : (fitR n (p.2 ++ chR ws i)).isEmpty with
      | true =>
        have hpk : pick n ws p i = false := by unfold pick; rw [hh, Bool.not_true, Bool.and_false]
        rw [hh] at hhd
        simp [-List.map_take, -List.map_map, e3, hhd, hpk]
      | false =>
        have hpk : pick n ws p i = true := by unfold pick; rw [hh, hnw, decide_eq_false c]; rfl
        rw [hh] at hhd
        have hs2 : p.1.length + 1 ≤ 65536 := by omega
        have hs3 : A.length ≤ 65536 := by omega
        simp [-List.map_take, -List.map_map, e3, hhd, hpk, tD, kdD, addK, hs2, hs3]
theorem okRow_ent {W : Wss} {n : Nat} (hn : 1 ≤ n) {t : List (List Int)} (h : t ∈ Tks W n) : okRow (entD W n t) = true := by
  have hf := (allR_mem (frst_mem h).1).1
  generalize hF : frst W (allR n n) t = F at hf
  have h1 := flat_tD t
  have h2 : ((F.map D.int).all fun k => (intD k).isSome) = true := by
    rw [List.all_eq_true]
    intro d hd
    obtain ⟨x, _, rfl⟩ := List.mem_map.mp hd
    rfl
  have h3 : (F.map D.int).isEmpty = false := by
    cases F with
    | nil => exact absurd hf (by simp; omega)
    | cons x r => rfl
  unfold entD
  rw [hF]
  show (D.flat (.tup [tD t, tnum F, .int _]) && !(F.map D.int).isEmpty && (F.map D.int).all fun k => (intD k).isSome) = true
  rw [h2, h3]
  simp [h1]
theorem grow_done {n : Nat} {ws : List (List Int)} (done : List Kd) (p : Kd) : done.flatMap (grow1 n ws) ++ (((rng ws.length).take ((ws.length : Int)).toNat).filter (pick n ws p)).map (addK ws p) = (done ++ [p]).flatMap (grow1 n ws) := by
  rw [List.flatMap_append, Int.toNat_natCast, List.take_of_length_le (by rw [rng_len]; exact Nat.le_refl _)]
  simp [grow1]
theorem take_filter (n : Nat) (ws : List (List Int)) (p : Kd) {i : Nat} (hi : i < ws.length) : (((rng ws.length).take (i + 1)).filter (pick n ws p)).map (addK ws p) = (((rng ws.length).take i).filter (pick n ws p)).map (addK ws p) ++ if pick n ws p i = true then [addK ws p i] else [] := by
  have hg : (rng ws.length)[i]? = some (i : Int) := rng_at hi
  rw [List.take_add_one, hg]
  show (((rng ws.length).take i ++ [(i : Int)]).filter _).map _ = _
  rw [filter_snoc, List.map_append]
  split <;> rfl
theorem tongues_eq {n : Nat} {W : Wss} (hn : 1 ≤ n ∧ n ≤ 6) (hW : W.length ≤ 3) (hws : ∀ ws ∈ W, (1 ≤ ws.length ∧ ws.length ≤ 5) ∧ ∀ w ∈ ws, w.length = n) :
    F_tongues [.int n, .lst (W.map words)] = .ok (.own ((Tks W n).map (entD W n))) := by
  refine W_eq (runB_W ?_)
  simp [-List.map_map, body_tongues]
  refine W_bind.2 (W_forM W words rfl (fun pre e => ∃ (K : List Kd) (s2 : S) (x3 x4 x5 x6 x7 x8 x9 x11 : Option S), e = [some (.val (.int n)), some (.val (.lst (W.map words))), some s2, x3, x4, x5, x6, x7, x8, x9, none, x11] ∧ (s2 = .own (K.map kdD) ∨ s2 = .val (.lst (K.map kdD))) ∧ KOk n pre K) ⟨[([], [])], _, _, _, _, _, _, _, _, _, rfl, .inl rfl, KOk.nil n⟩ ?_ ?_)
  · rintro pre ws post e hx ⟨K, s2, x3, x4, x5, x6, x7, x8, x9, x11, rfl, hs2, hK⟩
    have hwm := mem_mid hx
    obtain ⟨⟨h1, h5⟩, hw⟩ := hws ws hwm
    have hpre : pre.length ≤ 2 := by have := congrArg List.length hx; rw [List.length_append, List.length_cons] at this; omega
    have hz : -1000000 ≤ (ws.length : Int) ∧ (ws.length : Int) ≤ 1000000 := by omega
    rcases hs2 with rfl | rfl
    all_goals
      simp [-List.map_map, words]
      refine W_bind.2 (W_forM K kdD rfl (fun done e => ∃ (x5 x6 x7 x8 x9 x11 : Option S), e = [some (.val (.int n)), some (.val (.lst (W.map words))), some (.val (.lst (K.map kdD))), some (.val (words ws)), some (.own ((done.flatMap (grow1 n ws)).map kdD)), x5, x6, x7, x8, x9, none, x11]) ⟨_, _, _, _, _, _, rfl⟩ ?_ ?_)
      · rintro done p post e hp ⟨x5, x6, x7, x8, x9, x11, rfl⟩
        have hpm := mem_mid hp
        have hp1 := hK.tl p hpm
        have hp2 := hK.len p hpm
        simp [-List.map_map, -List.map_append, -List.flatMap_append, kdD, words, hz]
        refine W_range (fun i e => ∃ (x7 x8 x9 x11 : Option S), e = [some (.val (.int n)), some (.val (.lst (W.map words))), some (.val (.lst (K.map kdD))), some (.val (words ws)), some (.own ((done.flatMap (grow1 n ws) ++ (((rng ws.length).take i).filter (pick n ws p)).map (addK ws p)).map kdD)), some (.val (tD p.1)), some (.val (.lst (p.2.map .str))), x7, x8, x9, none, x11]) ⟨x7, x8, x9, x11, by simp [words]⟩ ?_ ?_
        · rintro i e hi ⟨x7, x8, x9, x11, rfl⟩
          have hi' : i < ws.length := by omega
          have gl := grow_len hn.2 hK h1 h5 hw hp i
          have st := in_step (n := n) (ws := ws) (p := p) (A := done.flatMap (grow1 n ws) ++ (((rng ws.length).take i).filter (pick n ws p)).map (addK ws p)) (i := i) hn.2 h5 hw hi' (by rw [List.length_append, List.length_map]; exact gl) (by omega) (by omega) (hK.row p hpm) (some (.val (.lst (W.map words)))) (some (.val (.lst (K.map kdD)))) x7 x8 x9 x11 (E := NE)
          rw [gName_eq, R.bind_ok]
          refine W_mono st fun f hf => ?_
          cases f with
          | rt s => exact hf.elim
          | nx e =>
            obtain ⟨y8, y9, y11, rfl⟩ := hf
            exact ⟨_, y8, y9, y11, by rw [take_filter n ws p hi', ← List.append_assoc]⟩
        · rintro e ⟨x7, x8, x9, x11, rfl⟩
          exact ⟨_, _, x7, x8, x9, x11, by rw [grow_done, words]⟩
      · rintro e ⟨x5, x6, x7, x8, x9, x11, rfl⟩
        have st := hK.step h1 h5 hw
        simp [-List.map_map]
        exact ⟨_, rfl, st⟩
  · rintro e ⟨K, s2, x3, x4, x5, x6, x7, x8, x9, x11, rfl, hs2, hK⟩
    rcases hs2 with rfl | rfl
    all_goals
      simp [-List.map_map]
      refine W_bind.2 (W_forM K kdD rfl (fun done e => ∃ (x5 x6 : Option S), e = [some (.val (.int n)), some (.val (.lst (W.map words))), some (.val (.lst (K.map kdD))), x3, x4, x5, x6, x7, x8, x9, some (.own (done.map fun p => entD W n p.1)), x11]) ⟨_, _, rfl⟩ ?_ ?_)
      · rintro done p post e hp ⟨x5, x6, rfl⟩
        have hpm := mem_mid hp
        have hrow := hK.row p hpm
        have hlen : done.length ≤ 65536 := by
          have h1 := Nat.le_trans hK.few (allR_720 hn.2)
          rw [hp, List.length_append, List.length_cons] at h1
          omega
        have e1 := first_ranking_eq (n := n) (rows := p.2) (by omega) hrow
        have e2 := how_many_eq (n := n) (rows := p.2) hn hrow
        rw [fitR_haveT hK hpm] at e1 e2
        have hk := kd_key hK hpm
        have hne : haveT W (allR n n) p.1 ≠ [] := fun z => haveT_nil.mp z hk
        have hh : ofR (haveT W (allR n n) p.1).head? = tnum (frst W (allR n n) p.1) := by
          unfold frst
          cases h : haveT W (allR n n) p.1 with
          | nil => exact absurd h hne
          | cons x r => rfl
        rw [hh] at e1
        have hf := flat_tD p.1
        simp [-List.map_map, kdD, e1, e2, hf, hlen, entD, cnt]
      · rintro e ⟨x5, x6, rfl⟩
        have hok : (K.map fun p => entD W n p.1).all okRow = true := by
          rw [List.all_eq_true]
          intro d hd
          obtain ⟨p, hp, rfl⟩ := List.mem_map.mp hd
          exact okRow_ent hn.1 (kd_key hK hp)
        have hs := sortK_ents hK
        simp only [cont_nx, sSortK_eq, List.getElem?_cons_succ, List.getElem?_cons_zero, hok, if_true, W_ok, PQ_rt, hs]
end Tg

namespace Tg
open PySem L2
theorem words_at {ws : List (List Int)} {k : Int} (h0 : 0 ≤ k) (h1 : k < ws.length) : atI (ws.map tnum) k = some (tnum (say ws k)) := by rw [atI_map, say_at h0 h1]; rfl
theorem rng_get {n i : Nat} (h : i < n) : (rng n)[i]? = some (i : Int) := rng_at h
theorem law_best2 {n : Nat} {r : List Int} {ws : List (List Int)} (h : IsRk n r) (hw2 : ws.length ≤ 1000) (hp : ∀ w ∈ ws, w.length = n) : F__law_best [.tup (r.map .int), words ws] = .ok (.own ((bestL ws r).map .int)) := by
  refine W_eq (runB_W ?_)
  have hr : -1000000 ≤ (ws.length : Int) ∧ (ws.length : Int) ≤ 1000000 := by omega
  simp [body__law_best, words, hr]
  refine W_bind.2 (W_range (fun i e => ∃ (x y : Option S), e = [some (.val (.tup (r.map .int))), some (.val (words ws)), some (.own ((((rng ws.length).take i).filter (minB ws r)).map .int)), x, y]) ⟨_, _, rfl⟩ ?_ ?_)
  · rintro i e hi ⟨x, y, rfl⟩
    have hi' : (0 : Int) ≤ i ∧ (i : Int) < ws.length := by omega
    have hg : (rng ws.length)[i]? = some (i : Int) := rng_get (by omega)
    have htk : ((rng ws.length).take (i + 1)).filter (minB ws r) = ((rng ws.length).take i).filter (minB ws r) ++ if minB ws r i = true then [(i : Int)] else [] := by
      rw [List.take_add_one, hg]
      exact filter_snoc _ _ _
    have hlen : (((rng ws.length).take i).filter (minB ws r)).length ≤ 65536 := Nat.le_trans (List.length_filter_le _ _) (by rw [List.length_take, rng_len]; omega)
    have hat := words_at hi'.1 hi'.2
    rw [atI_nat'] at hat
    simp [words]
    refine W_bind.2 (W_cf ws tnum tnum (fun o => o) (fun o => beatsB o (say ws i) r) rfl (by omega) ?_ ?_)
    · intro o ho
      have e1 := law_beats_eq h (hp o ho) (hp _ (say_mem hi'.1 hi'.2))
      cases c : beatsB o (say ws i) r <;> simp [hat, tnum, e1, c] <;> simpa [tnum] using hat
    · rw [List.map_id', htk]
      by_cases c : minB ws r i = true
      · have c2 : ws.filter (fun o => beatsB o (say ws i) r) = [] := by
          rw [List.filter_eq_nil_iff]
          intro o ho
          have := minB_iff.mp c o ho
          simp [this]
        simp [c, c2, words]
        exact hlen
      · have c2 : ws.filter (fun o => beatsB o (say ws i) r) ≠ [] := fun z => c (minB_iff.mpr fun o ho => by
          have := (List.filter_eq_nil_iff.mp z) o ho
          simpa using this)
        have c3 : ¬ ((ws.filter fun o => beatsB o (say ws i) r).length : Int) = 0 := by
          have := List.length_pos_iff.mpr c2
          omega
        generalize ws.filter (fun o => beatsB o (say ws i) r) = B at c2 c3
        simp [c, c2, words]
  · rintro e ⟨x, y, rfl⟩
    simp
    rw [List.take_of_length_le (by rw [rng_len]; exact Nat.le_refl _)]
    rfl
end Tg

namespace Tg
open PySem L2
/-! floors -/
def rowAt (rows : List (List Nat)) (p : Int) : List Nat := (rows[p.toNat]?).getD []
theorem row_at {rows : List (List Nat)} {p : Int} (h0 : 0 ≤ p) (h1 : p < rows.length) : atI rows p = some (rowAt rows p) := by
  rw [atI_of h0 h1]
  unfold rowAt
  rw [List.getElem?_eq_getElem (by omega)]
  rfl
theorem rowAt_mem {rows : List (List Nat)} {p : Int} (h0 : 0 ≤ p) (h1 : p < rows.length) : rowAt rows p ∈ rows := by
  unfold rowAt
  rw [List.getElem?_eq_getElem (by omega)]
  exact List.getElem_mem _
theorem mem_rowAt {rows : List (List Nat)} {r : List Nat} (h : r ∈ rows) : ∃ p : Int, (0 ≤ p ∧ p < rows.length) ∧ rowAt rows p = r := by
  obtain ⟨i, hi, e⟩ := List.mem_iff_getElem.mp h
  refine ⟨(i : Int), ⟨by omega, by omega⟩, ?_⟩
  unfold rowAt
  rw [show ((i : Int)).toNat = i by omega, List.getElem?_eq_getElem hi, e]
  rfl
/-- the number of a wish's floor -/
def fno : List (List Int) → Int → Nat
  | [], _ => 0
  | f :: r, v => if v ∈ f then 0 else fno r v + 1
theorem fno_le : ∀ (fl : List (List Int)) (v : Int), fno fl v ≤ fl.length
  | [], _ => Nat.le_refl _
  | f :: r, v => by
    unfold fno
    split
    · exact Nat.zero_le _
    · exact Nat.succ_le_succ (fno_le r v)
theorem fno_lt : ∀ (fl : List (List Int)) (v : Int), fno fl v < fl.length ↔ v ∈ fl.flatten
  | [], v => by simp [fno]
  | f :: r, v => by
    unfold fno
    rw [List.flatten_cons, List.mem_append, List.length_cons]
    by_cases h : v ∈ f
    · rw [if_pos h]; simp [h]
    · rw [if_neg h, Nat.succ_lt_succ_iff, fno_lt r v]; simp [h]
theorem fno_snoc (f : List Int) : ∀ (fl : List (List Int)) (v : Int), fno (fl ++ [f]) v = if fno fl v < fl.length then fno fl v else if v ∈ f then fl.length else fl.length + 1
  | [], v => by simp [fno]
  | g :: r, v => by
    rw [List.cons_append, fno, fno, fno_snoc f r v, List.length_cons]
    by_cases h : v ∈ g
    · simp [h]
    · simp only [if_neg h, Nat.succ_lt_succ_iff]
      split
      · rfl
      · split <;> rfl
theorem fno_mem : ∀ (fl : List (List Int)) (v : Int) (f : List Int), fl[fno fl v]? = some f → v ∈ f
  | [], v, f, h => by simp at h
  | g :: r, v, f, h => by
    unfold fno at h
    by_cases c : v ∈ g
    · rw [if_pos c] at h
      have e : g = f := by simpa using h
      rw [← e]; exact c
    · rw [if_neg c] at h
      exact fno_mem r v f (by simpa using h)
/-- floors that fit all rows, each wish pressed -/
structure FlOk (n : Nat) (rows : List (List Nat)) (fl : List (List Int)) : Prop where
  ne : ∀ f ∈ fl, f ≠ [] ∧ f.Pairwise (· < ·)
  perm : fl.flatten.Perm (rng n)
  fit : ∀ row ∈ rows, ∀ w ∈ rng n, sg row w = 76 → ∃ v ∈ rng n, sg row v = 87 ∧ fno fl v < fno fl w
  press : ∀ w ∈ rng n, 0 < fno fl w → ∃ row ∈ rows, sg row w = 76 ∧ ∀ v ∈ rng n, sg row v = 87 → fno fl w ≤ fno fl v + 1
/-- places of rows that clash -/
structure ClashAt (n : Nat) (rows : List (List Nat)) (ps : List Int) : Prop where
  up : ps.Pairwise (· < ·)
  at_ : ∀ p ∈ ps, 0 ≤ p ∧ p < rows.length
  L : ∃ w ∈ rng n, ∃ p ∈ ps, sg (rowAt rows p) w = 76
  W : ∀ w ∈ rng n, (∃ p ∈ ps, sg (rowAt rows p) w = 87) → ∃ p ∈ ps, sg (rowAt rows p) w = 76
def markB (rows : List (List Nat)) (ps : List Int) (w : Int) (c : Nat) : Bool := ps.any fun p => sg (rowAt rows p) w == c
theorem marked_eq {n : Nat} {rows : List (List Nat)} {ps : List Int} {w : Int} {c : Nat} (hn : n ≤ 1000) (hr : ∀ row ∈ rows, IsRow n row) (hp : ∀ p ∈ ps, 0 ≤ p ∧ p < rows.length) (hw : 0 ≤ w ∧ w < n) (hc : c < 0x110000) : F_marked [.lst (rows.map .str), .lst (ps.map .int), .int w, .str [c]] = .ok (.val (.bl (markB rows ps w c))) := by
  refine W_eq (runB_W ?_)
  have hz : n ≤ 65536 := by omega
  simp [body_marked]
  refine W_bind.2 (W_forM ps .int rfl (fun pre e => (∃ z : Option S, e = [some (.val (.lst (rows.map .str))), some (.val (.lst (ps.map .int))), some (.val (.int w)), some (.val (.str [c])), z]) ∧ ∀ p ∈ pre, sg (rowAt rows p) w ≠ c) ⟨⟨_, rfl⟩, by simp⟩ ?_ ?_)
  · rintro pre x post e hx ⟨⟨z, rfl⟩, hI⟩
    have hpx := hp x (mem_mid hx)
    have e0 := row_at hpx.1 hpx.2
    have hrow := hr _ (rowAt_mem hpx.1 hpx.2)
    have e1 := sg_at (row := rowAt rows x) hw.1 (by rw [hrow.1]; omega)
    have e2 := oEq_c (c := sg (rowAt rows x) w) (d := c) (hrow.lt w) hc
    by_cases k : sg (rowAt rows x) w = c
    · rw [k] at e1 e2
      simp [e0, e1, e2, hrow.1, hz]
      unfold markB
      rw [List.any_eq_true]
      exact ⟨x, mem_mid hx, by simp [k]⟩
    · simp [e0, e1, e2, hrow.1, hz, k]
      intro p hp
      rcases hp with hp | hp
      · exact hI p hp
      · rw [hp]; exact k
  · rintro e ⟨⟨z, rfl⟩, hI⟩
    have : markB rows ps w c = false := by
      unfold markB
      rw [List.any_eq_false]
      intro p hp
      simp [hI p hp]
    simp [this]
/-- what holds between the floors -/
structure FlInv (n : Nat) (rows : List (List Nat)) (left waiting : List Int) (fl : List (List Int)) : Prop where
  ne : ∀ f ∈ fl, f ≠ [] ∧ f.Pairwise (· < ·)
  nd : fl.flatten.Nodup
  sub : ∀ w ∈ fl.flatten, w ∈ rng n
  wt : waiting = (rng n).filter fun w => decide (fno fl w = fl.length)
  lf : ∀ p, p ∈ left ↔ (0 ≤ p ∧ p < rows.length) ∧ ∀ v ∈ rng n, sg (rowAt rows p) v = 87 → fno fl v = fl.length
  up : left.Pairwise (· < ·)
  fit : ∀ row ∈ rows, ∀ w ∈ rng n, sg row w = 76 → fno fl w = fl.length ∨ ∃ v ∈ rng n, sg row v = 87 ∧ fno fl v < fno fl w
  press : ∀ w ∈ rng n, 0 < fno fl w → ∃ row ∈ rows, sg row w = 76 ∧ ∀ v ∈ rng n, sg row v = 87 → fno fl w ≤ fno fl v + 1
theorem rng_up (n : Nat) : (rng n).Pairwise (· < ·) := by
  induction n with
  | zero => exact List.Pairwise.nil
  | succ n ih =>
    rw [rng_succ, List.pairwise_append]
    refine ⟨ih, List.pairwise_singleton _ _, fun x hx y hy => ?_⟩
    rw [List.mem_singleton.mp hy]
    exact (rng_mem hx).2
theorem fl_start (n : Nat) (rows : List (List Nat)) : FlInv n rows (rng rows.length) (rng n) [] where
  ne := fun f h => by cases h
  nd := List.nodup_nil
  sub := fun w h => by cases h
  wt := (List.filter_eq_self.mpr fun w _ => rfl).symm
  lf := fun p => ⟨fun h => ⟨rng_mem h, fun _ _ _ => rfl⟩, fun h => mem_rng h.1.1 h.1.2⟩
  up := rng_up _
  fit := fun _ _ _ _ _ => .inl rfl
  press := fun w _ h => by exact absurd h (Nat.lt_irrefl 0)
theorem mem_marks {rows : List (List Nat)} {ps : List Int} {w : Int} {c : Nat} : markB rows ps w c = true ↔ ∃ p ∈ ps, sg (rowAt rows p) w = c := by
  unfold markB
  rw [List.any_eq_true]
  simp
theorem fl_step {n : Nat} {rows : List (List Nat)} {left waiting floor : List Int} {fl : List (List Int)} (I : FlInv n rows left waiting fl) (hf : floor = waiting.filter fun w => !markB rows left w 76) (h0 : floor ≠ []) :
    FlInv n rows (left.filter fun p => !decide (∃ w ∈ floor, sg (rowAt rows p) w = 87)) (waiting.filter fun w => !decide (w ∈ floor)) (fl ++ [floor]) := by
  have hfm : ∀ w, w ∈ floor ↔ (w ∈ rng n ∧ fno fl w = fl.length) ∧ markB rows left w 76 = false := fun w => by
    rw [hf, List.mem_filter, I.wt, List.mem_filter]
    simp
  have hfn : ∀ w ∈ floor, fno (fl ++ [floor]) w = fl.length := fun w hw => by
    rw [fno_snoc, if_neg (by have := ((hfm w).mp hw).1.2; omega), if_pos hw]
  have hle : ∀ v, fno fl v ≤ fno (fl ++ [floor]) v := fun v => by
    rw [fno_snoc]
    have := fno_le fl v
    split
    · exact Nat.le_refl _
    · split <;> omega
  have hlt : ∀ v, fno fl v < fl.length → fno (fl ++ [floor]) v = fno fl v := fun v h => by rw [fno_snoc, if_pos h]
  have hout : ∀ v, fno (fl ++ [floor]) v = fl.length + 1 ↔ fno fl v = fl.length ∧ v ∉ floor := fun v => by
    rw [fno_snoc]
    have := fno_le fl v
    by_cases h : fno fl v < fl.length
    · rw [if_pos h]; omega
    · rw [if_neg h]
      by_cases h2 : v ∈ floor
      · rw [if_pos h2]; simp [h2]
      · rw [if_neg h2]; simp [h2]; omega
  have hlen : (fl ++ [floor]).length = fl.length + 1 := by simp
  have hdec : ∀ p w, w ∈ rng n → sg (rowAt rows p) w = 87 → fno fl w = fl.length → (p ∈ left → (fno (fl ++ [floor]) w = fl.length + 1 ∨ w ∈ floor)) := fun p w hw _ h _ => by
    by_cases h2 : w ∈ floor
    · exact .inr h2
    · exact .inl ((hout w).mpr ⟨h, h2⟩)
  refine ⟨?_, ?_, ?_, ?_, ?_, ?_, ?_, ?_⟩
  · intro f hfm'
    rcases List.mem_append.mp hfm' with h | h
    · exact I.ne f h
    · rw [List.mem_singleton.mp h]
      refine ⟨h0, ?_⟩
      rw [hf, I.wt]
      exact ((rng_up n).filter _).filter _
  · rw [List.flatten_append, List.nodup_append]
    refine ⟨I.nd, ?_, fun a ha b hb e => ?_⟩
    · rw [List.flatten_singleton, hf, I.wt]
      exact ((rng_nodup n).filter _).filter _
    · rw [List.flatten_singleton] at hb
      subst e
      have := (fno_lt fl a).mpr ha
      have := ((hfm a).mp hb).1.2
      omega
  · intro w hw
    rw [List.flatten_append, List.mem_append] at hw
    rcases hw with hw | hw
    · exact I.sub w hw
    · rw [List.flatten_singleton] at hw
      exact ((hfm w).mp hw).1.1
  · rw [I.wt, List.filter_filter]
    apply List.filter_congr
    intro w _
    rw [hlen, Bool.eq_iff_iff, Bool.and_eq_true]
    simp only [decide_eq_true_eq, Bool.not_eq_true', decide_eq_false_iff_not]
    rw [hout]
    exact And.comm
  · intro p
    rw [List.mem_filter, I.lf, hlen]
    simp only [Bool.not_eq_true', decide_eq_false_iff_not]
    constructor
    · rintro ⟨⟨h1, h2⟩, h3⟩
      refine ⟨h1, fun v hv hs => (hout v).mpr ⟨h2 v hv hs, fun h => h3 ⟨v, h, hs⟩⟩⟩
    · rintro ⟨h1, h2⟩
      refine ⟨⟨h1, fun v hv hs => ((hout v).mp (h2 v hv hs)).1⟩, fun ⟨w, hw, hs⟩ => ((hout w).mp (h2 w ((hfm w).mp hw).1.1 hs)).2 hw⟩
  · exact I.up.filter _
  · intro row hrow w hw hs
    rw [hlen]
    rcases I.fit row hrow w hw hs with h | ⟨v, hv, h1, h2⟩
    · by_cases c : w ∈ floor
      · right
        obtain ⟨p, hp, e⟩ := mem_rowAt hrow
        have hnl : p ∉ left := fun hl => by
          have := ((hfm w).mp c).2
          rw [Bool.eq_false_iff] at this
          exact this (mem_marks.mpr ⟨p, hl, by rw [e]; exact hs⟩)
        rw [I.lf] at hnl
        have : ¬ ∀ v ∈ rng n, sg (rowAt rows p) v = 87 → fno fl v = fl.length := fun q => hnl ⟨hp, q⟩
        obtain ⟨v, q⟩ := Classical.not_forall.mp this
        obtain ⟨hv, q⟩ := Classical.not_imp.mp q
        obtain ⟨hs2, q⟩ := Classical.not_imp.mp q
        refine ⟨v, hv, by rw [← e]; exact hs2, ?_⟩
        have := fno_le fl v
        rw [hfn w c, hlt v (by omega)]
        omega
      · exact .inl ((hout w).mpr ⟨h, c⟩)
    · right
      refine ⟨v, hv, h1, ?_⟩
      have := fno_le fl w
      rw [hlt v (by omega)]
      exact Nat.lt_of_lt_of_le h2 (hle w)
  · intro w hw h
    have hc := fno_snoc floor fl w
    by_cases c1 : fno fl w < fl.length
    · rw [if_pos c1] at hc
      rw [hc] at h ⊢
      obtain ⟨row, hrow, h1, h2⟩ := I.press w hw h
      exact ⟨row, hrow, h1, fun v hv hs => Nat.le_trans (h2 v hv hs) (Nat.succ_le_succ (hle v))⟩
    · have heq : fno fl w = fl.length := by have := fno_le fl w; omega
      by_cases c2 : w ∈ floor
      · rw [if_neg c1, if_pos c2] at hc
        rw [hc] at h ⊢
        obtain ⟨row, hrow, h1, h2⟩ := I.press w hw (by omega)
        exact ⟨row, hrow, h1, fun v hv hs => by have a := h2 v hv hs; have b := hle v; omega⟩
      · rw [if_neg c1, if_neg c2] at hc
        have hm : markB rows left w 76 = true := by
          cases hb : markB rows left w 76 with
          | true => rfl
          | false => exact absurd ((hfm w).mpr ⟨⟨hw, heq⟩, hb⟩) c2
        obtain ⟨p, hp, hs⟩ := mem_marks.mp hm
        have hl := (I.lf p).mp hp
        refine ⟨rowAt rows p, rowAt_mem hl.1.1 hl.1.2, hs, fun v hv hs2 => ?_⟩
        have a := hl.2 v hv hs2
        have b := hle v
        omega
theorem fl_end {n : Nat} {rows : List (List Nat)} {left : List Int} {fl : List (List Int)} (I : FlInv n rows left [] fl) : FlOk n rows fl := by
  have hall : ∀ w ∈ rng n, fno fl w < fl.length := fun w hw => by
    have h := I.wt
    have h2 : w ∉ (rng n).filter fun w => decide (fno fl w = fl.length) := by rw [← h]; exact List.not_mem_nil
    rw [List.mem_filter] at h2
    have := fno_le fl w
    have : ¬ fno fl w = fl.length := fun q => h2 ⟨hw, by simp [q]⟩
    omega
  refine ⟨I.ne, ?_, ?_, I.press⟩
  · rw [List.perm_ext_iff_of_nodup I.nd (rng_nodup n)]
    exact fun a => ⟨I.sub a, fun h => (fno_lt fl a).mp (hall a h)⟩
  · intro row hrow w hw hs
    rcases I.fit row hrow w hw hs with h | h
    · have := hall w hw
      omega
    · exact h
theorem fl_clash {n : Nat} {rows : List (List Nat)} {left waiting : List Int} {fl : List (List Int)} (I : FlInv n rows left waiting fl) (hw : waiting ≠ []) (hf : (waiting.filter fun w => !markB rows left w 76) = []) : ClashAt n rows left := by
  have hm : ∀ w ∈ waiting, ∃ p ∈ left, sg (rowAt rows p) w = 76 := fun w h => by
    rw [List.filter_eq_nil_iff] at hf
    have := hf w h
    exact mem_marks.mp (by simpa using this)
  have hwt : ∀ w, w ∈ waiting ↔ w ∈ rng n ∧ fno fl w = fl.length := fun w => by rw [I.wt, List.mem_filter]; simp
  refine ⟨I.up, fun p hp => ((I.lf p).mp hp).1, ?_, ?_⟩
  · obtain ⟨w, h⟩ := List.exists_mem_of_ne_nil _ hw
    exact ⟨w, ((hwt w).mp h).1, hm w h⟩
  · rintro w hw ⟨p, hp, hs⟩
    exact hm w ((hwt w).mpr ⟨hw, ((I.lf p).mp hp).2 w hw hs⟩)
end Tg

namespace Tg
open PySem L2
theorem filter_lt {α : Type} {p : α → Bool} {l : List α} {x : α} (hx : x ∈ l) (h1 : p x = false) : (l.filter p).length < l.length := by
  induction l with
  | nil => cases hx
  | cons a l ih =>
    rw [List.filter_cons]
    rcases List.mem_cons.mp hx with e | hx
    · subst e
      rw [if_neg (by simp [h1])]
      exact Nat.lt_succ_of_le (List.length_filter_le _ _)
    · split
      · exact Nat.succ_lt_succ (ih hx)
      · exact Nat.lt_succ_of_lt (ih hx)
theorem floors_ex {n : Nat} {rows : List (List Nat)} (hn : n ≤ 1000) (hl : rows.length ≤ 1000) (hr : ∀ row ∈ rows, IsRow n row) :
    ∃ d, F_floors [.int n, .lst (rows.map .str)] = .ok (.val d) ∧ ((∃ fl, d = .tup [.bl true, .lst (fl.map lint)] ∧ FlOk n rows fl) ∨ (∃ ps, d = .tup [.bl false, lint ps] ∧ ClashAt n rows ps)) := by
  have hz2 : -1000000 ≤ (n : Int) ∧ (n : Int) ≤ 1000000 := by omega
  have hz3 : -1000000 ≤ (rows.length : Int) ∧ (rows.length : Int) ≤ 1000000 := by omega
  obtain ⟨s, e, d, rfl, h⟩ := W_ex' (show W (F_floors [.int n, .lst (rows.map .str)]) (fun s => ∃ d, s = .val d ∧ ((∃ fl, d = .tup [.bl true, .lst (fl.map lint)] ∧ FlOk n rows fl) ∨ (∃ ps, d = .tup [.bl false, lint ps] ∧ ClashAt n rows ps))) NE by
    refine runB_W ?_
    simp [body_floors, hz2, hz3, rangeL_rng]
    refine W_bind.2 (W_while (fun k e => ∃ (left waiting : List Int) (fl : List (List Int)) (x : Option S), e = [some (.val (.int n)), some (.val (.lst (rows.map .str))), some (.own (left.map .int)), some (.own (waiting.map .int)), some (.own (fl.map lint)), x, none, none] ∧ FlInv n rows left waiting fl ∧ k = waiting.length ∧ fl.length + waiting.length ≤ n) (k := n) ⟨rng rows.length, rng n, [], none, rfl, fl_start n rows, (rng_len n).symm, by rw [rng_len]; simp⟩ (by omega) ?_)
    rintro k e ⟨left, waiting, fl, x, rfl, I, rfl, hk⟩
    by_cases hw : waiting = []
    · subst hw
      simp
      exact ⟨fl, rfl, fl_end I⟩
    · have hlf : ∀ p ∈ left, 0 ≤ p ∧ p < rows.length := fun p hp => ((I.lf p).mp hp).1
      have hwr : ∀ w ∈ waiting, 0 ≤ w ∧ w < n := fun w h => by
        rw [I.wt, List.mem_filter] at h
        exact rng_mem h.1
      have hll : left.length ≤ 1000 := by
        have q := nodup_le (I.up.imp fun h => by omega) fun p hp => mem_rng (hlf p hp).1 (hlf p hp).2
        rw [rng_len] at q
        omega
      have hwl : waiting.length ≤ 1000 := by omega
      simp [hw]
      refine W_bind.2 (W_cf waiting .int .int (fun w => w) (fun w => !markB rows left w 76) rfl (by omega) ?_ ?_)
      · intro w hw'
        have e := marked_eq hn hr hlf (hwr w hw') (c := 76) (by decide)
        cases c : markB rows left w 76 <;> simp [e, c]
      · rw [List.map_id']
        obtain ⟨floor, hfl⟩ : ∃ floor, floor = waiting.filter fun w => !markB rows left w 76 := ⟨_, rfl⟩
        rw [← hfl]
        by_cases hf : floor = []
        · simp [hf]
          exact ⟨left, rfl, fl_clash I hw (by rw [← hfl]; exact hf)⟩
        · have hst := fl_step I hfl hf
          have hfw : ∀ w ∈ floor, w ∈ waiting := fun w h => by rw [hfl] at h; exact (List.mem_filter.mp h).1
          have hfle : floor.length ≤ 1000 := Nat.le_trans (by rw [hfl]; exact List.length_filter_le _ _) hwl
          simp [hf]
          refine ⟨by omega, ?_⟩
          refine W_bind.2 (W_cf waiting .int .int (fun w => w) (fun w => !decide (w ∈ floor)) rfl (by omega) ?_ ?_)
          · intro w hw'
            by_cases c : w ∈ floor <;> simp [c]
          · rw [List.map_id']
            simp
            refine W_bind.2 (W_cf left .int .int (fun p => p) (fun p => !decide (∃ w ∈ floor, sg (rowAt rows p) w = 87)) rfl (by omega) ?_ ?_)
            · intro p hp
              have hpp := hlf p hp
              have e0 := row_at hpp.1 hpp.2
              have hrow := hr _ (rowAt_mem hpp.1 hpp.2)
              have hz : n ≤ 65536 := by omega
              refine W_eq ?_
              simp
              refine W_bind.2 (W_cm floor .int .str (fun w => [sg (rowAt rows p) w]) rfl (by omega) ?_ ?_)
              · intro w hw'
                have hww := hwr w (hfw w hw')
                have e1 := sg_at (row := rowAt rows p) hww.1 (by rw [hrow.1]; omega)
                simp [e0, e1, hrow.1, hz]
              · have e2 := oNotIn_ls (a := [87]) (xs := floor.map fun w => [sg (rowAt rows p) w]) (fun c hc => by rw [List.mem_singleton.mp hc]; decide) (fun x hx => by
                  obtain ⟨w, _, rfl⟩ := List.mem_map.mp hx
                  exact fun c hc => by rw [List.mem_singleton.mp hc]; exact hrow.lt w)
                have e3 : ([87] ∈ floor.map fun w => [sg (rowAt rows p) w]) ↔ ∃ w ∈ floor, sg (rowAt rows p) w = 87 := by simp
                simp only [kc_eq, k2b_eq, S.d_val, S.d_own, e2, e3, R.bind_ok]
                by_cases c : ∃ w ∈ floor, sg (rowAt rows p) w = 87 <;> simp [c]
            · rw [List.map_id']
              simp
              obtain ⟨w0, hw0⟩ := List.exists_mem_of_ne_nil _ hf
              have hlt := filter_lt (p := fun w => !decide (w ∈ floor)) (hfw w0 hw0) (by simp [hw0])
              exact ⟨_, hlt, _, _, fl ++ [floor], ⟨rfl, rfl, by simp⟩, hst, rfl, by rw [List.length_append, List.length_singleton]; omega⟩)
  exact ⟨d, e, h⟩
end Tg

namespace Tg
open PySem L2
/-! what floors are good for, in plain words -/
/-- a numbering fits a row -/
def Fit (n : Nat) (g : Int → Int) (row : List Nat) : Prop := ∀ w ∈ rng n, sg row w = 76 → ∃ v ∈ rng n, sg row v = 87 ∧ g v < g w
theorem exists_min {α : Type} (g : α → Int) : ∀ {l : List α}, l ≠ [] → ∃ x ∈ l, ∀ y ∈ l, g x ≤ g y
  | [], h => absurd rfl h
  | [a], _ => ⟨a, List.mem_cons_self, fun y hy => by rw [List.mem_singleton.mp hy]; exact Int.le_refl _⟩
  | a :: b :: l, _ => by
    obtain ⟨x, hx, h⟩ := exists_min g (l := b :: l) (by simp)
    by_cases c : g a ≤ g x
    · refine ⟨a, List.mem_cons_self, fun y hy => ?_⟩
      rcases List.mem_cons.mp hy with e | hy
      · rw [e]; exact Int.le_refl _
      · exact Int.le_trans c (h y hy)
    · refine ⟨x, List.mem_cons_of_mem _ hx, fun y hy => ?_⟩
      rcases List.mem_cons.mp hy with e | hy
      · rw [e]; omega
      · exact h y hy
theorem FlOk.fits {n : Nat} {rows : List (List Nat)} {fl : List (List Int)} (F : FlOk n rows fl) : ∀ row ∈ rows, Fit n (fun w => fno fl w) row := fun row hrow w hw hs => by
  obtain ⟨v, hv, h1, h2⟩ := F.fit row hrow w hw hs
  exact ⟨v, hv, h1, by show (fno fl v : Int) < fno fl w; omega⟩
theorem FlOk.least {n : Nat} {rows : List (List Nat)} {fl : List (List Int)} (F : FlOk n rows fl) {g : Int → Int} (h : ∀ row ∈ rows, Fit n g row) (h0 : ∀ w ∈ rng n, 0 ≤ g w) : ∀ w ∈ rng n, (fno fl w : Int) ≤ g w := by
  have go : ∀ k : Nat, ∀ w ∈ rng n, k ≤ fno fl w → (k : Int) ≤ g w := by
    intro k
    induction k with
    | zero => exact fun w hw _ => h0 w hw
    | succ k ih =>
      intro w hw hk
      obtain ⟨row, hrow, h1, h2⟩ := F.press w hw (by omega)
      obtain ⟨v, hv, h3, h4⟩ := h row hrow w hw h1
      have h5 := h2 v hv h3
      have h6 := ih v hv (by omega)
      omega
  exact fun w hw => go _ w hw (Nat.le_refl _)
theorem ClashAt.no {n : Nat} {rows : List (List Nat)} {ps : List Int} (C : ClashAt n rows ps) {g : Int → Int} (h : ∀ row ∈ rows, Fit n g row) : False := by
  obtain ⟨w0, hw0, hp0⟩ := C.L
  have hne : ((rng n).filter fun w => decide (∃ p ∈ ps, sg (rowAt rows p) w = 76)) ≠ [] := List.ne_nil_of_mem (List.mem_filter.mpr ⟨hw0, decide_eq_true hp0⟩)
  obtain ⟨w, hw, hmin⟩ := exists_min g hne
  rw [List.mem_filter, decide_eq_true_eq] at hw
  obtain ⟨hw, p, hp, hs⟩ := hw
  have hpp := C.at_ p hp
  obtain ⟨v, hv, h1, h2⟩ := h _ (rowAt_mem hpp.1 hpp.2) w hw hs
  have := hmin v (List.mem_filter.mpr ⟨hv, decide_eq_true (C.W v hv ⟨p, hp, h1⟩)⟩)
  omega
/-- the place of a wish in a ranking -/
def pl (r : List Int) (w : Int) : Int := (r.idxOf w : Nat)
theorem pl_mid {l m : List Int} {w : Int} (h : w ∉ l) : pl (l ++ w :: m) w = l.length := by
  unfold pl
  rw [List.idxOf_append, if_neg h]
  simp
theorem pl_before {l m : List Int} {v : Int} (h : v ∈ l) : pl (l ++ m) v < l.length := by
  unfold pl
  rw [List.idxOf_append, if_pos h]
  have := List.idxOf_lt_length_iff.mpr h
  omega
theorem pl_lt {l m : List Int} {v w : Int} (hw : w ∉ l) (h : pl (l ++ w :: m) v < pl (l ++ w :: m) w) : v ∈ l := by
  rw [pl_mid hw] at h
  by_cases c : v ∈ l
  · exact c
  · unfold pl at h
    rw [List.idxOf_append, if_neg c] at h
    omega
theorem split_at {w : Int} : ∀ {r : List Int}, w ∈ r → ∃ l m, r = l ++ w :: m ∧ w ∉ l
  | [], h => by cases h
  | x :: r, h => by
    by_cases hx : w = x
    · exact ⟨[], r, by rw [hx]; rfl, List.not_mem_nil⟩
    · rcases List.mem_cons.mp h with e | h
      · exact absurd e hx
      · obtain ⟨l, m, e, hn⟩ := split_at h
        exact ⟨x :: l, m, by rw [e]; rfl, fun q => by
          rcases List.mem_cons.mp q with q | q
          · exact hx q
          · exact hn q⟩
theorem fit_rk {n : Nat} {r : List Int} {row : List Nat} (h : IsRk n r) (hr : IsRow n row) : fitsB row r = true ↔ Fit n (pl r) row := by
  rw [fitsB_iff hr]
  have nd := h.nodup
  constructor
  · intro q w hw hs
    have hw' := rng_mem hw
    obtain ⟨l, m, e, hn⟩ := split_at (h.has hw'.1 hw'.2)
    obtain ⟨o, ho, h2⟩ := q l w m e hs
    have hor : o ∈ r := by rw [e]; exact List.mem_append_left _ ho
    refine ⟨o, h.mem_iff.mp hor, h2, ?_⟩
    rw [e, pl_mid hn]
    exact pl_before ho
  · intro q l w m e hs
    have hwr : w ∈ r := by rw [e]; simp
    have hn : w ∉ l := fun z => by
      rw [e, List.nodup_append] at nd
      exact nd.2.2 w z w List.mem_cons_self rfl
    obtain ⟨v, hv, h1, h2⟩ := q w (h.mem_iff.mp hwr) hs
    rw [e] at h2
    exact ⟨v, pl_lt hn h2, h1⟩
theorem pl_nonneg (r : List Int) (w : Int) : 0 ≤ pl r w := by unfold pl; omega
/-- two rising lists of the same things are one -/
theorem up_ext : ∀ {a b : List Int}, a.Pairwise (· < ·) → b.Pairwise (· < ·) → (∀ x, x ∈ a ↔ x ∈ b) → a = b
  | [], [], _, _, _ => rfl
  | [], y :: b, _, _, h => by have := (h y).mpr List.mem_cons_self; cases this
  | x :: a, [], _, _, h => by have := (h x).mp List.mem_cons_self; cases this
  | x :: a, y :: b, ha, hb, h => by
    rw [List.pairwise_cons] at ha hb
    have e : x = y := by
      rcases List.mem_cons.mp ((h x).mp List.mem_cons_self) with q | q
      · exact q
      · rcases List.mem_cons.mp ((h y).mpr List.mem_cons_self) with q2 | q2
        · exact q2.symm
        · have := hb.1 x q
          have := ha.1 y q2
          omega
    subst e
    rw [up_ext ha.2 hb.2 fun z => ?_]
    constructor
    · intro hz
      rcases List.mem_cons.mp ((h z).mp (List.mem_cons_of_mem _ hz)) with q | q
      · subst q
        have := ha.1 z hz
        omega
      · exact q
    · intro hz
      rcases List.mem_cons.mp ((h z).mpr (List.mem_cons_of_mem _ hz)) with q | q
      · subst q
        have := hb.1 z hz
        omega
      · exact q
/-- floors are told by the wishes' numbers -/
theorem fl_ext : ∀ {A B : List (List Int)}, (∀ f ∈ A, f ≠ [] ∧ f.Pairwise (· < ·)) → (∀ f ∈ B, f ≠ [] ∧ f.Pairwise (· < ·)) → A.flatten.Nodup → B.flatten.Nodup → (∀ v, v ∈ A.flatten ↔ v ∈ B.flatten) → (∀ v ∈ A.flatten, fno A v = fno B v) → A = B
  | [], [], _, _, _, _, _, _ => rfl
  | [], b :: B, _, hb, _, _, hm, _ => by
    obtain ⟨x, hx⟩ := List.exists_mem_of_ne_nil _ (hb b List.mem_cons_self).1
    have := (hm x).mpr (by rw [List.flatten_cons]; exact List.mem_append_left _ hx)
    cases this
  | a :: A, [], ha, _, _, _, hm, _ => by
    obtain ⟨x, hx⟩ := List.exists_mem_of_ne_nil _ (ha a List.mem_cons_self).1
    have := (hm x).mp (by rw [List.flatten_cons]; exact List.mem_append_left _ hx)
    cases this
  | a :: A, b :: B, ha, hb, na, nb, hm, hf => by
    rw [List.flatten_cons, List.nodup_append] at na nb
    have key : ∀ v, v ∈ (a :: A).flatten → (v ∈ a ↔ v ∈ b) := fun v hv => by
      have e := hf v hv
      unfold fno at e
      by_cases c : v ∈ a
      · rw [if_pos c] at e
        by_cases d : v ∈ b
        · exact ⟨fun _ => d, fun _ => c⟩
        · rw [if_neg d] at e; omega
      · rw [if_neg c] at e
        by_cases d : v ∈ b
        · rw [if_pos d] at e; omega
        · exact ⟨fun z => absurd z c, fun z => absurd z d⟩
    have eab : a = b := up_ext (ha a List.mem_cons_self).2 (hb b List.mem_cons_self).2 fun x => by
      constructor
      · intro hx
        exact (key x (by rw [List.flatten_cons]; exact List.mem_append_left _ hx)).mp hx
      · intro hx
        exact (key x ((hm x).mpr (by rw [List.flatten_cons]; exact List.mem_append_left _ hx))).mpr hx
    subst eab
    have hm' : ∀ v, v ∈ A.flatten ↔ v ∈ B.flatten := fun v => by
      have q := hm v
      rw [List.flatten_cons, List.flatten_cons, List.mem_append, List.mem_append] at q
      constructor
      · intro hv
        rcases q.mp (.inr hv) with z | z
        · exact absurd rfl (na.2.2 v z v hv)
        · exact z
      · intro hv
        rcases q.mpr (.inr hv) with z | z
        · exact absurd rfl (nb.2.2 v z v hv)
        · exact z
    rw [fl_ext (fun f h => ha f (List.mem_cons_of_mem _ h)) (fun f h => hb f (List.mem_cons_of_mem _ h)) na.2.1 nb.2.1 hm' fun v hv => ?_]
    have hva : v ∉ a := fun z => na.2.2 v z v hv rfl
    have e := hf v (by rw [List.flatten_cons]; exact List.mem_append_right _ hv)
    unfold fno at e
    rw [if_neg hva, if_neg hva] at e
    omega
end Tg

namespace Tg
open PySem L2
theorem flat_up : ∀ {fl : List (List Int)}, fl.flatten.Nodup → fl.flatten.Pairwise fun a b => fno fl a ≤ fno fl b
  | [], _ => List.Pairwise.nil
  | f :: fl, nd => by
    rw [List.flatten_cons, List.nodup_append] at nd
    rw [List.flatten_cons, List.pairwise_append]
    refine ⟨?_, ?_, ?_⟩
    · refine List.pairwise_of_forall_mem_list fun a ha b hb => ?_
      unfold fno
      rw [if_pos ha]
      exact Nat.zero_le _
    · refine (flat_up nd.2.1).imp_of_mem fun {a b} ha hb h => ?_
      unfold fno
      rw [if_neg (fun z => nd.2.2 a z a ha rfl), if_neg (fun z => nd.2.2 b z b hb rfl)]
      omega
    · intro a ha b hb
      unfold fno
      rw [if_pos ha]
      exact Nat.zero_le _
theorem FlOk.rk_fits {n : Nat} {rows : List (List Nat)} {fl : List (List Int)} (F : FlOk n rows fl) (hrows : ∀ row ∈ rows, IsRow n row) {r : List Int} (hr : IsRk n r) (hp : r.Pairwise fun a b => fno fl a ≤ fno fl b) : ∀ row ∈ rows, fitsB row r = true := by
  intro row hrow
  rw [fitsB_iff (hrows row hrow)]
  intro l w m e hs
  have hw : w ∈ rng n := hr.mem_iff.mp (by rw [e]; simp)
  obtain ⟨v, hv, h1, h2⟩ := F.fit row hrow w hw hs
  refine ⟨v, ?_, h1⟩
  have hvr := hr.mem_iff.mpr hv
  rw [e, List.pairwise_append, List.pairwise_cons] at hp
  rw [e] at hvr
  rcases List.mem_append.mp hvr with z | z
  · exact z
  · rcases List.mem_cons.mp z with z | z
    · subst z; omega
    · have := hp.2.1.1 v z; omega
end Tg

namespace Tg
open PySem L2
theorem join1 {s : List Nat} (h : s.length ≤ 1000) : oJoin (.str []) (.lst (s.map fun c => .str [c])) = .ok (.val (.str s)) := by
  have e : (s.map fun c => D.str [c]) = (s.map fun c => [c]).map .str := by rw [List.map_map]; rfl
  rw [e, oJoin_eq, if_pos ⟨by rw [List.length_map]; omega, fun x hx => by obtain ⟨c, _, rfl⟩ := List.mem_map.mp hx; exact (by decide : 1 ≤ 1000), by decide⟩, joinL_nil]
  have : (s.map fun c => [c]).flatten = s := by
    clear e h
    induction s with
    | nil => rfl
    | cons c s ih => simp [ih]
  rw [this]
end Tg

namespace Tg
open PySem L2
/-! a saying's rows against the others -/
theorem law_row_of_eq {n : Nat} {a b : List Int} (hn : n ≤ 1000) (ha : a.length = n) (hb : b.length = n) : F__law_row_of [tnum a, tnum b] = .ok (.val (.str (rowOf a b))) := by
  have hl : (rowOf a b).length = n := by rw [rowOf_len (ha.trans hb.symm), ha]
  have hj := join1 (s := rowOf a b) (by omega)
  refine W_eq (runB_W ?_)
  simp [-List.map_map, body__law_row_of, tnum, zip_ints]
  refine W_bind.2 (W_cm (a.zip b) (fun p => D.tup [.int p.1, .int p.2]) (fun c => D.str [c]) (fun p => sgn p.1 p.2) rfl (by rw [List.length_zip]; omega) ?_ ?_)
  · rintro ⟨x, y⟩ hm
    have e : atI [87, 101, 76] (1 + (if y < x then 1 else 0) - if x < y then 1 else 0) = some (sgn x y) := by
      unfold sgn
      by_cases h1 : x < y
      · have h2 : ¬ y < x := by omega
        rw [if_pos h1, if_neg h2, if_pos h1]; rfl
      · by_cases h2 : y < x
        · rw [if_neg h1, if_pos h2, if_neg h1, if_pos h2]; rfl
        · rw [if_neg h1, if_neg h2, if_neg h1, if_neg h2]; rfl
    simp [e]
  · rw [show (a.zip b).map (fun p => sgn p.1 p.2) = rowOf a b by unfold rowOf; rw [List.zip, List.map_zipWith]]
    simp [hj]
def oth (m : Nat) (i : Int) : List Int := (rng m).filter fun k => decide (k ≠ i)
theorem mem_oth {m : Nat} {i k : Int} : k ∈ oth m i ↔ (0 ≤ k ∧ k < (m : Int)) ∧ k ≠ i := by
  unfold oth
  rw [List.mem_filter, decide_eq_true_eq]
  exact ⟨fun h => ⟨rng_mem h.1, h.2⟩, fun h => ⟨mem_rng h.1.1 h.1.2, h.2⟩⟩
theorem oth_up (m : Nat) (i : Int) : (oth m i).Pairwise (· < ·) := (rng_lt m).filter _
theorem oth_len (m : Nat) (i : Int) : (oth m i).length ≤ m := Nat.le_trans (List.length_filter_le _ _) (by rw [rng_len]; exact Nat.le_refl _)
def rowK (ws : List (List Int)) (i k : Int) : List Nat := rowOf (say ws i) (say ws k)
def rws (ws : List (List Int)) (i : Int) : List (List Nat) := (oth ws.length i).map (rowK ws i)
theorem rowK_row {n : Nat} {ws : List (List Int)} (hw : ∀ w ∈ ws, w.length = n) {i k : Int} (hi : 0 ≤ i ∧ i < ws.length) (hk : 0 ≤ k ∧ k < ws.length) : IsRow n (rowK ws i k) := rowOf_row (hw _ (say_mem hi.1 hi.2)) (hw _ (say_mem hk.1 hk.2))
theorem rws_row {n : Nat} {ws : List (List Int)} (hw : ∀ w ∈ ws, w.length = n) {i : Int} (hi : 0 ≤ i ∧ i < ws.length) : ∀ q ∈ rws ws i, IsRow n q := fun q hq => by
  obtain ⟨k, hk, rfl⟩ := List.mem_map.mp hq
  exact rowK_row hw hi (mem_oth.mp hk).1
theorem beats_self (a : List Int) : ∀ r : List Int, beatsB a a r = false
  | [] => rfl
  | x :: r => by rw [beatsB, if_pos rfl, beats_self a r]
/-- a ranking fits a saying's rows just where it has the saying among the best -/
theorem rws_fit {n : Nat} {ws : List (List Int)} (hw : ∀ w ∈ ws, w.length = n) {i : Int} (hi : 0 ≤ i ∧ i < ws.length) {r : List Int} (hr : IsRk n r) : fitAll (rws ws i) r = true ↔ i ∈ bestL ws r := by
  have fb : ∀ k : Int, (0 ≤ k ∧ k < (ws.length : Int)) → fitsB (rowK ws i k) r = !beatsB (say ws k) (say ws i) r := fun k hk => fits_beats (hw _ (say_mem hi.1 hi.2)) (hw _ (say_mem hk.1 hk.2)) r fun w h => hr.mem h
  rw [mem_bestL, minB_iff]
  unfold fitAll
  rw [List.all_eq_true]
  constructor
  · refine fun h => ⟨hi, fun o ho => ?_⟩
    obtain ⟨k, h0, h1, rfl⟩ := mem_say ho
    by_cases c : k = i
    · rw [c]; exact beats_self _ _
    · have := h _ (List.mem_map.mpr ⟨k, mem_oth.mpr ⟨⟨h0, h1⟩, c⟩, rfl⟩)
      rw [fb k ⟨h0, h1⟩] at this
      simpa using this
  · rintro ⟨_, h⟩ q hq
    obtain ⟨k, hk, rfl⟩ := List.mem_map.mp hq
    have hk := (mem_oth.mp hk).1
    rw [fb k hk, h _ (say_mem hk.1 hk.2)]
    rfl
/-- what chance tells -/
def Chn (n : Nat) (ws : List (List Int)) (i : Int) (b : Bool) (d : D) : Prop :=
  (b = true → ∃ r, d = tnum r ∧ (fitR n (rws ws i)).head? = some r) ∧ (b = false → fitR n (rws ws i) = [])
theorem chance_ex {n : Nat} {ws : List (List Int)} (hn : n ≤ 63) (hl : ws.length ≤ 100) (hw : ∀ w ∈ ws, w.length = n) {i : Int} (hi : 0 ≤ i ∧ i < ws.length) : ∃ (b : Bool) (d : D), F_chance [words ws, .int i] = .ok (.val (.tup [.bl b, d])) ∧ Chn n ws i b d := by
  have hz : -1000000 ≤ (ws.length : Int) ∧ (ws.length : Int) ≤ 1000000 := by omega
  have hrr := rws_row hw hi
  have hol := oth_len ws.length i
  have hrl : (rws ws i).length ≤ 100 := by unfold rws; rw [List.length_map]; omega
  have e1 := first_ranking_eq (n := n) (rows := rws ws i) hn hrr
  have hil : (say ws i).length = n := hw _ (say_mem hi.1 hi.2)
  have hat := words_at hi.1 hi.2
  have hnl : ¬ i < 0 := by omega
  have hng : ¬ (ws.length : Int) ≤ i := by omega
  obtain ⟨s, e, b, d, rfl, h⟩ := W_ex' (show W (F_chance [words ws, .int i]) (fun s => ∃ (b : Bool) (d : D), s = .val (.tup [.bl b, d]) ∧ Chn n ws i b d) NE by
    refine runB_W ?_
    simp [-List.map_map, body_chance, words, hnl, hng, hz, rangeL_rng]
    refine W_bind.2 (W_cf (rng ws.length) .int .int (fun k => k) (fun k => decide (k ≠ i)) rfl (by rw [rng_len]; omega) ?_ ?_)
    · intro k hk
      by_cases c : k = i <;> simp [c]
    · rw [List.map_id', show (rng ws.length).filter (fun k => decide (k ≠ i)) = oth ws.length i from rfl]
      simp [-List.map_map]
      refine W_bind.2 (W_cm (oth ws.length i) .int .str (rowK ws i) rfl (by omega) ?_ ?_)
      · intro k hk
        have hk := (mem_oth.mp hk).1
        have e2 := row_of_eq (a := say ws i) (b := say ws k) (by rw [hil, hw _ (say_mem hk.1 hk.2)]) (by omega)
        have e3 := words_at hk.1 hk.2
        simp [hat, e3, e2]
        rfl
      · rw [show (oth ws.length i).map (rowK ws i) = rws ws i from rfl]
        cases hh : (fitR n (rws ws i)).head? with
        | some r =>
          rw [hh] at e1
          simp [-List.map_map, hat, hil, e1, ofR]
          exact ⟨fun _ => ⟨r, rfl, hh⟩, fun z => (by cases z)⟩
        | none =>
          rw [hh] at e1
          have hnil : fitR n (rws ws i) = [] := by
            cases h2 : fitR n (rws ws i) with
            | nil => rfl
            | cons r rest => rw [h2] at hh; cases hh
          obtain ⟨d, e4, hd⟩ := floors_ex (n := n) (rows := rws ws i) (by omega) (by omega) hrr
          rcases hd with ⟨fl, rfl, F⟩ | ⟨ps, rfl, C⟩
          · exfalso
            have nd : fl.flatten.Nodup := F.perm.nodup_iff.mpr (rng_nodup n)
            have : fl.flatten ∈ fitR n (rws ws i) := mem_fitR'.mpr ⟨F.perm, by
              unfold fitAll
              rw [List.all_eq_true]
              exact F.rk_fits hrr F.perm (flat_up nd)⟩
            rw [hnil] at this
            cases this
          · have hps : ∀ p ∈ ps, 0 ≤ p ∧ p < ((oth ws.length i).length : Int) := fun p hp => by
              have := C.at_ p hp
              unfold rws at this
              rw [List.length_map] at this
              exact this
            have hpl : ps.length ≤ 1000 := by
              have q := nodup_le (C.up.imp fun h => by omega) fun p hp => mem_rng (hps p hp).1 (hps p hp).2
              rw [rng_len] at q
              omega
            have hra : ∀ p ∈ ps, rowAt (rws ws i) p = rowK ws i (nth (oth ws.length i) p) := fun p hp => by
              have h := hps p hp
              have h3 : p.toNat < (oth ws.length i).length := by omega
              unfold rowAt rws nth
              rw [List.getElem?_map, List.getElem?_eq_getElem h3]
              rfl
            simp [-List.map_map, hat, hil, e1, e4, ofR]
            refine W_bind.2 (W_cm ps .int .int (nth (oth ws.length i)) rfl (by omega) ?_ ?_)
            · intro p hp
              have h := hps p hp
              have h2 := nth_at (a := oth ws.length i) h.1 h.2
              simp [h2]
            · simp [-List.map_map]
              exact ⟨fun z => (by cases z), fun _ => hnil⟩)
  exact ⟨b, d, e, h⟩
end Tg

namespace Tg
open PySem L2
/-! k92: numbers of tongues, their rows, who has a chance -/
theorem sum_ite {α : Type} [DecidableEq α] (f : α → Nat) (x : α) : ∀ l : List α, l.Nodup → (l.map fun t => f t + if x = t then 1 else 0).sum = (l.map f).sum + if x ∈ l then 1 else 0
  | [], _ => rfl
  | y :: l, nd => by
    rw [List.nodup_cons] at nd
    have ih := sum_ite f x l nd.2
    rw [List.map_cons, List.map_cons, List.sum_cons, List.sum_cons, ih]
    by_cases e : x = y
    · subst e
      rw [if_pos rfl, if_neg nd.1, if_pos List.mem_cons_self]
      omega
    · rw [if_neg e]
      have : x ∈ y :: l ↔ x ∈ l := by rw [List.mem_cons]; exact ⟨fun h => h.resolve_left e, .inr⟩
      simp only [this]
      omega
theorem cnt_sum {W : Wss} : ∀ L : List (List Int), ((keysL W L).map (cnt W L)).sum = L.length := by
  refine snoc_ind rfl fun L r ih => ?_
  have e1 : (cnt W (L ++ [r])) = fun t => cnt W L t + if tong W r = t then 1 else 0 := funext fun t => cnt_snoc
  rw [e1, keysL_snoc, List.length_append]
  split
  · rename_i c
    rw [sum_ite _ _ _ (keysL_nodup L), ih, if_pos c]
    rfl
  · rename_i c
    have e2 : (keysL W L).map (fun t => cnt W L t + if tong W r = t then 1 else 0) = (keysL W L).map (cnt W L) := List.map_congr_left fun t ht => by rw [if_neg fun z => c (by rw [z]; exact ht)]; rfl
    rw [List.map_append, List.sum_append, e2, ih]
    simp [cnt_zero c]
theorem sum_cast : ∀ l : List Nat, (l.map fun (x : Nat) => (x : Int)).sum = ((l.sum : Nat) : Int)
  | [] => rfl
  | x :: l => by rw [List.map_cons, List.sum_cons, List.sum_cons, sum_cast l]; simp
/-! how many tongues at most -/
def kinds (n : Nat) (W : Wss) : List Kd := W.foldl (fun K ws => K.flatMap (grow1 n ws)) [([], [])]
theorem kinds_snoc (n : Nat) (W : Wss) (ws : List (List Int)) : kinds n (W ++ [ws]) = (kinds n W).flatMap (grow1 n ws) := by
  unfold kinds
  rw [List.foldl_append]
  rfl
def OkW (n : Nat) (ws : List (List Int)) : Prop := (1 ≤ ws.length ∧ ws.length ≤ 5) ∧ ∀ w ∈ ws, w.length = n
theorem kinds_ok {n : Nat} : ∀ W : Wss, (∀ ws ∈ W, OkW n ws) → KOk n W (kinds n W) := by
  refine snoc_ind (fun _ => KOk.nil n) fun W ws ih h => ?_
  rw [kinds_snoc]
  have hw := h ws (by simp)
  exact (ih fun x hx => h x (List.mem_append.mpr (.inl hx))).step hw.1.1 hw.1.2 hw.2
theorem flatMap_le {α β : Type} {f : α → List β} {m : Nat} : ∀ l : List α, (∀ x ∈ l, (f x).length ≤ m) → (l.flatMap f).length ≤ l.length * m
  | [], _ => Nat.le_of_eq (by simp)
  | x :: l, h => by
    have h1 := h x List.mem_cons_self
    have h2 := flatMap_le l fun y hy => h y (List.mem_cons_of_mem _ hy)
    rw [List.flatMap_cons, List.length_append, List.length_cons, Nat.succ_mul]
    omega
theorem kinds_le {n m : Nat} : ∀ W : Wss, (∀ ws ∈ W, ws.length ≤ m) → (kinds n W).length ≤ m ^ W.length := by
  refine snoc_ind (fun _ => Nat.le_refl 1) fun W ws ih h => ?_
  have h1 := ih fun x hx => h x (List.mem_append.mpr (.inl hx))
  have h2 := h ws (by simp)
  rw [kinds_snoc, List.length_append, List.length_singleton, Nat.pow_succ]
  refine Nat.le_trans (flatMap_le (m := m) _ fun p _ => ?_) (Nat.mul_le_mul_right m h1)
  unfold grow1
  rw [List.length_map]
  refine Nat.le_trans (List.length_filter_le _ _) ?_
  rw [rng_len]
  exact h2
theorem tks_64 {n : Nat} {W : Wss} (hn : n ≤ 5) (hW : W.length ≤ 2) (hws : ∀ ws ∈ W, OkW n ws) (h3 : n = 5 → ∀ ws ∈ W, ws.length ≤ 3) : (Tks W n).length < 64 := by
  have hk := kinds_ok W hws
  have e := (keys_perm hk).length_eq
  rw [List.length_map] at e
  rw [← e]
  by_cases c : n = 5
  · have h1 := kinds_le (n := n) (m := 3) W (h3 c)
    have h2 : 3 ^ W.length ≤ 9 := Nat.pow_le_pow_right (n := 3) (by decide) hW
    omega
  · have h1 := hk.few
    obtain ⟨l1, l2, l3, l4, l5, l6⟩ := allR_len
    have e : n = 0 ∨ n = 1 ∨ n = 2 ∨ n = 3 ∨ n = 4 := by omega
    rcases e with e | e | e | e | e <;> subst e
    · have : (allR 0 0).length = 1 := rfl
      omega
    all_goals omega
/-! the rows of a tongue -/
def hd (ws : List (List Int)) (r : List Int) : Int := (bestL ws r).headD 0
theorem hd_best {ws : List (List Int)} (h : 1 ≤ ws.length) (r : List Int) : (bestL ws r)[0]? = some (hd ws r) ∧ hd ws r ∈ bestL ws r := by
  obtain ⟨k, hk⟩ := best_ne (ws := ws) (by omega) r
  unfold hd
  cases e : bestL ws r with
  | nil => rw [e] at hk; cases hk
  | cons x xs => exact ⟨rfl, List.mem_cons_self⟩
def tRows (W : Wss) (r : List Int) : List (List Nat) := W.flatMap fun ws => chR ws (hd ws r)
theorem tRows_row {n : Nat} {W : Wss} (hws : ∀ ws ∈ W, OkW n ws) (r : List Int) : ∀ q ∈ tRows W r, IsRow n q := fun q hq => by
  obtain ⟨ws, hw, hq⟩ := List.mem_flatMap.mp hq
  have h := hws ws hw
  exact chR_row h.2 (mem_bestL.mp (hd_best h.1.1 r).2).1 q hq
theorem tRows_fit {n : Nat} {W : Wss} (hws : ∀ ws ∈ W, OkW n ws) {r r' : List Int} (hr : IsRk n r) (hr' : IsRk n r') : fitAll (tRows W r) r' = true ↔ tong W r' = tong W r := by
  have one : ∀ ws ∈ W, (fitAll (chR ws (hd ws r)) r' = true ↔ bestL ws r' = bestL ws r) := fun ws hw => by
    have h := hws ws hw
    have hb := (hd_best h.1.1 r).2
    rw [chR_fit h.2 (mem_bestL.mp hb).1 hr', best_alike hr h.2 hb]
  unfold tong
  rw [List.map_inj_left]
  unfold fitAll tRows at *
  rw [List.all_flatMap, List.all_eq_true]
  exact ⟨fun h ws hw => (one ws hw).mp (h ws hw), fun h ws hw => (one ws hw).mpr (h ws hw)⟩
theorem tRows_fitR {n : Nat} {W : Wss} (hws : ∀ ws ∈ W, OkW n ws) {r : List Int} (hr : IsRk n r) : fitR n (tRows W r) = haveT W (allR n n) (tong W r) := by
  unfold fitR haveT
  refine List.filter_congr fun q hq => ?_
  rw [Bool.eq_iff_iff, decide_eq_true_eq]
  exact tRows_fit hws hr (allR_rk hq)
/-! firsts -/
theorem head_low {n : Nat} {p : List Int → Bool} {x : List Int} (h : ((allR n n).filter p).head? = some x) : ∀ y ∈ allR n n, p y = true → HT.lexLt y x = false := fun y hy hp => by
  have hm : y ∈ (allR n n).filter p := List.mem_filter.mpr ⟨hy, hp⟩
  have srt : ((allR n n).filter p).Pairwise fun p q => HT.lexLt p q = true := (allR_lex n n).filter _
  cases e : (allR n n).filter p with
  | nil => rw [e] at h; cases h
  | cons z zs =>
    rw [e] at h hm srt
    cases h
    rw [Bool.eq_false_iff]
    intro z
    rcases List.mem_cons.mp hm with z2 | z2
    · rw [z2] at z; exact lex_asymm z z
    · exact lex_asymm z ((List.pairwise_cons.mp srt).1 y z2)
theorem frst_head {W : Wss} {n : Nat} {t : List (List Int)} (h : t ∈ Tks W n) : (haveT W (allR n n) t).head? = some (frst W (allR n n) t) := by
  have hne : haveT W (allR n n) t ≠ [] := fun z => haveT_nil.mp z h
  unfold frst
  cases e : haveT W (allR n n) t with
  | nil => exact absurd e hne
  | cons x r => rfl
theorem frst_low {W : Wss} {n : Nat} {t : List (List Int)} (h : t ∈ Tks W n) {r : List Int} (hr : IsRk n r) (ht : tong W r = t) : HT.lexLt r (frst W (allR n n) t) = false := head_low (frst_head h) r (rk_allR hr) (decide_eq_true ht)
theorem lex_tri : ∀ {p q : List Int}, p.length = q.length → HT.lexLt p q = false → HT.lexLt q p = false → p = q
  | [], [], _, _, _ => rfl
  | [], _ :: _, h, _, _ => by cases h
  | _ :: _, [], h, _, _ => by cases h
  | x :: p, y :: q, hl, h1, h2 => by
    have h1 : (if x = y then HT.lexLt p q else decide (x < y)) = false := h1
    have h2 : (if y = x then HT.lexLt q p else decide (y < x)) = false := h2
    by_cases e : x = y
    · rw [if_pos e] at h1
      rw [if_pos e.symm] at h2
      rw [e, lex_tri (by simpa using hl) h1 h2]
    · rw [if_neg e] at h1
      rw [if_neg fun z => e z.symm] at h2
      have := of_decide_eq_false h1
      have := of_decide_eq_false h2
      omega
theorem lex_irr (p : List Int) : HT.lexLt p p = false := by
  rw [Bool.eq_false_iff]
  exact fun z => lex_asymm z z
theorem lex_le_trans : ∀ {p q r : List Int}, p.length = q.length → q.length = r.length → HT.lexLt q p = false → HT.lexLt r q = false → HT.lexLt r p = false
  | [], [], [], _, _, _, _ => rfl
  | [], [], _ :: _, _, h, _, _ => by cases h
  | [], _ :: _, _, h, _, _, _ => by cases h
  | _ :: _, [], _, h, _, _, _ => by cases h
  | _ :: _, _ :: _, [], _, h, _, _ => by cases h
  | x :: p, y :: q, z :: r, l1, l2, h1, h2 => by
    have h1 : (if y = x then HT.lexLt q p else decide (y < x)) = false := h1
    have h2 : (if z = y then HT.lexLt r q else decide (z < y)) = false := h2
    show (if z = x then HT.lexLt r p else decide (z < x)) = false
    by_cases e1 : y = x
    · rw [if_pos e1] at h1
      by_cases e2 : z = y
      · rw [if_pos e2] at h2
        rw [if_pos (e2.trans e1)]
        exact lex_le_trans (by simpa using l1) (by simpa using l2) h1 h2
      · rw [if_neg e2] at h2
        have := of_decide_eq_false h2
        rw [if_neg (fun w => e2 (w.trans e1.symm))]
        exact decide_eq_false (by omega)
    · rw [if_neg e1] at h1
      have := of_decide_eq_false h1
      by_cases e2 : z = y
      · rw [if_neg (fun w => e1 (e2.symm.trans w))]
        exact decide_eq_false (by omega)
      · rw [if_neg e2] at h2
        have := of_decide_eq_false h2
        rw [if_neg (by omega)]
        exact decide_eq_false (by omega)
theorem minL_low {n : Nat} : ∀ (ns : List (List Int)) (m : List Int), m.length = n → (∀ y ∈ ns, y.length = n) → (minL m ns ∈ m :: ns) ∧ HT.lexLt m (minL m ns) = false ∧ ∀ y ∈ ns, HT.lexLt y (minL m ns) = false
  | [], m, _, _ => ⟨List.mem_cons_self, lex_irr m, fun y hy => (by cases hy)⟩
  | z :: ns, m, hm, hl => by
    have hz := hl z List.mem_cons_self
    have hl' := fun y hy => hl y (List.mem_cons_of_mem _ hy)
    have e : minL m (z :: ns) = minL (if HT.lexLt z m = true then z else m) ns := rfl
    rw [e]
    by_cases c : HT.lexLt z m = true
    · rw [if_pos c]
      obtain ⟨h1, h2, h3⟩ := minL_low ns z hz hl'
      have hlm : (minL z ns).length = n := by
        rcases List.mem_cons.mp h1 with e | e
        · rw [e]; exact hz
        · exact hl' _ e
      refine ⟨List.mem_cons_of_mem _ h1, ?_, fun y hy => ?_⟩
      · have a : HT.lexLt m z = false := by rw [Bool.eq_false_iff]; exact fun w => lex_asymm c w
        exact lex_le_trans (hlm.trans hz.symm) (hz.trans hm.symm) h2 a
      · rcases List.mem_cons.mp hy with e | hy
        · rw [e]; exact h2
        · exact h3 y hy
    · rw [if_neg c]
      obtain ⟨h1, h2, h3⟩ := minL_low ns m hm hl'
      have hlm : (minL m ns).length = n := by
        rcases List.mem_cons.mp h1 with e | e
        · rw [e]; exact hm
        · exact hl' _ e
      refine ⟨?_, h2, fun y hy => ?_⟩
      · rcases List.mem_cons.mp h1 with e | e
        · rw [e]; exact List.mem_cons_self
        · exact List.mem_cons_of_mem _ (List.mem_cons_of_mem _ e)
      · rcases List.mem_cons.mp hy with e | hy
        · rw [e]
          exact lex_le_trans (hlm.trans hm.symm) (hm.trans hz.symm) h2 (by rw [Bool.eq_false_iff]; exact c)
        · exact h3 y hy
/-- the first rankings of the tongues that have i in the first word -/
def fsts (W : Wss) (n : Nat) (i : Int) : List (List Int) := ((Tks W n).filter fun t => decide (i ∈ t.headD [])).map (frst W (allR n n))
theorem head_tong {W : Wss} {ws : List (List Int)} {W' : Wss} (e : W = ws :: W') (r : List Int) : (tong W r).headD [] = bestL ws r := by
  rw [e]
  rfl
theorem mem_fsts {W W' : Wss} {n : Nat} {ws : List (List Int)} (e : W = ws :: W') {i : Int} {r : List Int} : r ∈ fsts W n i ↔ ∃ t ∈ Tks W n, frst W (allR n n) t = r ∧ i ∈ bestL ws r := by
  unfold fsts
  rw [List.mem_map]
  constructor
  · rintro ⟨t, ht, rfl⟩
    rw [List.mem_filter, decide_eq_true_eq] at ht
    have h2 := (frst_mem ht.1).2
    refine ⟨t, ht.1, rfl, ?_⟩
    rw [← head_tong e, h2]
    exact ht.2
  · rintro ⟨t, ht, rfl, hi⟩
    have h2 := (frst_mem ht).2
    refine ⟨t, List.mem_filter.mpr ⟨ht, decide_eq_true ?_⟩, rfl⟩
    rw [← h2, head_tong e]
    exact hi
theorem fsts_none {W W' : Wss} {n : Nat} {ws : List (List Int)} (e : W = ws :: W') (hw : ∀ w ∈ ws, w.length = n) {i : Int} (hi : 0 ≤ i ∧ i < ws.length) (h : fitR n (rws ws i) = []) : fsts W n i = [] := by
  rw [List.eq_nil_iff_forall_not_mem]
  intro r hr
  obtain ⟨t, ht, rfl, hb⟩ := (mem_fsts e).mp hr
  have hk := allR_rk (frst_mem ht).1
  have : frst W (allR n n) t ∈ fitR n (rws ws i) := mem_fitR'.mpr ⟨hk, (rws_fit hw hi hk).mpr hb⟩
  rw [h] at this
  cases this
/-- the least of them is the first ranking by which i is among the best -/
theorem fsts_min {W W' : Wss} {n : Nat} {ws : List (List Int)} (e : W = ws :: W') (hw : ∀ w ∈ ws, w.length = n) {i : Int} (hi : 0 ≤ i ∧ i < ws.length) {r : List Int} (h : (fitR n (rws ws i)).head? = some r) : ∃ m ms, fsts W n i = m :: ms ∧ minL m ms = r := by
  have hm : r ∈ fitR n (rws ws i) := List.mem_of_head? h
  have hk := (mem_fitR'.mp hm).1
  have hb := (rws_fit hw hi hk).mp (mem_fitR'.mp hm).2
  have low : ∀ y, IsRk n y → i ∈ bestL ws y → HT.lexLt y r = false := fun y hy hyb => head_low (p := fitAll (rws ws i)) h y (rk_allR hy) ((rws_fit hw hi hy).mpr hyb)
  have ht : tong W r ∈ Tks W n := (mem_keysL _ _).mpr ⟨r, rk_allR hk, rfl⟩
  have hf := frst_mem ht
  have hfk := allR_rk hf.1
  have hfb : i ∈ bestL ws (frst W (allR n n) (tong W r)) := by rw [← head_tong e, hf.2, head_tong e]; exact hb
  have er : frst W (allR n n) (tong W r) = r := lex_tri (hfk.len.trans hk.len.symm) (low _ hfk hfb) (frst_low ht hk rfl)
  have hrm : r ∈ fsts W n i := (mem_fsts e).mpr ⟨_, ht, er, hb⟩
  have hall : ∀ y ∈ fsts W n i, y.length = n ∧ HT.lexLt y r = false := fun y hy => by
    obtain ⟨t, h1, rfl, h3⟩ := (mem_fsts e).mp hy
    have hk2 := allR_rk (frst_mem h1).1
    exact ⟨hk2.len, low _ hk2 h3⟩
  cases c : fsts W n i with
  | nil => rw [c] at hrm; cases hrm
  | cons m ms =>
    rw [c] at hrm hall
    refine ⟨m, ms, rfl, ?_⟩
    obtain ⟨h1, h2, h3⟩ := minL_low ms m (hall m List.mem_cons_self).1 fun y hy => (hall y (List.mem_cons_of_mem _ hy)).1
    refine lex_tri ((hall _ h1).1.trans hk.len.symm) (hall _ h1).2 ?_
    rcases List.mem_cons.mp hrm with z | z
    · rw [z]; exact h2
    · exact h3 r z
end Tg

namespace Tg
open PySem L2
theorem law_tongue_eq {n : Nat} {W : Wss} {r : List Int} (hW : W.length ≤ 3) (hws : ∀ ws ∈ W, OkW n ws) (hr : IsRk n r) : F__law_tongue [tnum r, .lst (W.map words)] = .ok (.val (tD (tong W r))) := by
  refine W_eq (runB_W ?_)
  simp [-List.map_map, body__law_tongue]
  refine W_bind.2 (W_cm W words (fun (b : List Int) => tnum b) (fun ws => bestL ws r) rfl (by omega) ?_ ?_)
  · intro ws hw
    obtain ⟨⟨h1, h5⟩, hl⟩ := hws ws hw
    have e1 := law_best2 hr (by omega) hl
    simp [e1]
  · simp [tD, tong]
theorem zip_tong (r : List Int) : ∀ W : Wss, zipD ((tong W r).map fun w => D.tup (w.map .int)) (W.map words) = W.map fun ws => D.tup [tnum (bestL ws r), words ws]
  | [] => rfl
  | ws :: W => by
    show D.tup [_, _] :: zipD ((tong W r).map fun w => D.tup (w.map .int)) (W.map words) = _
    rw [zip_tong r W]
    rfl
theorem tRows_len {n : Nat} (r : List Int) : ∀ W : Wss, (∀ ws ∈ W, OkW n ws) → (tRows W r).length ≤ 5 * W.length
  | [], _ => Nat.le_refl _
  | ws :: W, h => by
    have h1 := (h ws List.mem_cons_self).1
    have h2 := tRows_len (n := n) r W fun x hx => h x (List.mem_cons_of_mem _ hx)
    show (chR ws (hd ws r) ++ tRows W r).length ≤ _
    unfold chR
    rw [List.length_append, List.length_map, List.length_cons]
    omega
theorem rowsT_eq {n : Nat} {W : Wss} {r : List Int} (hn : n ≤ 6) (hW : W.length ≤ 3) (hws : ∀ ws ∈ W, OkW n ws) : ∃ s : S, F__law_rows_of [tD (tong W r), .lst (W.map words)] = .ok s ∧ s.d = .lst ((tRows W r).map .str) := by
  obtain ⟨s, e, h⟩ := W_ex' (show Tg.W (F__law_rows_of [tD (tong W r), .lst (W.map words)]) (fun s => s.d = .lst ((tRows W r).map .str)) NE by
    refine runB_W ?_
    simp [-List.map_map, body__law_rows_of, tD]
    rw [zip_tong]
    refine W_bind.2 (W_forM W (fun ws => D.tup [tnum (bestL ws r), words ws]) rfl (fun pre e => ∃ (x3 x4 x5 : Option S), e = [some (.val (.tup ((tong W r).map fun w => D.tup (w.map .int)))), some (.val (.lst (W.map words))), some (.own ((tRows pre r).map .str)), x3, x4, x5]) ⟨_, _, _, rfl⟩ ?_ ?_)
    · rintro pre ws post e hx ⟨x3, x4, x5, rfl⟩
      have hwm := mem_mid hx
      obtain ⟨⟨h1, h5⟩, hl⟩ := hws ws hwm
      obtain ⟨g1, g2⟩ := hd_best h1 r
      have hr := (mem_bestL.mp g2).1
      have hat := say_at (ws := ws) hr.1 hr.2
      have hsl : (say ws (hd ws r)).length = n := hl _ (say_mem hr.1 hr.2)
      have tl := tRows_len (n := n) r pre fun x hx2 => hws x (by rw [hx]; exact List.mem_append.mpr (.inl hx2))
      have pl : pre.length ≤ 3 := by have := congrArg List.length hx; rw [List.length_append] at this; omega
      have cl : (chR ws (hd ws r)).length ≤ 5 := by unfold chR; rw [List.length_map]; exact h5
      have sn : tRows (pre ++ [ws]) r = tRows pre r ++ chR ws (hd ws r) := by
        unfold tRows
        rw [List.flatMap_append]
        simp
      rw [sn]
      generalize tRows pre r = A at tl
      simp [-List.map_map, words]
      refine W_bind.2 (W_cm ws tnum .str (rowOf (say ws (hd ws r))) rfl (by omega) ?_ ?_)
      · intro o ho
        have e1 := law_row_of_eq (n := n) (a := say ws (hd ws r)) (b := o) (by omega) hsl (hl o ho)
        simp [g1, hat, e1]
      · rw [show ws.map (rowOf (say ws (hd ws r))) = chR ws (hd ws r) from rfl]
        have hs : A.length + (chR ws (hd ws r)).length ≤ 65536 := by omega
        simp [-List.map_map, hs]
    · rintro e ⟨x3, x4, x5, rfl⟩
      simp)
  exact ⟨s, e, h⟩
theorem orders_eq {n : Nat} (hn : 1 ≤ n ∧ n ≤ 5) : F__law_orders [.int n] = .ok (.val (.int ((allR n n).length : Int))) := by
  obtain ⟨l1, l2, l3, l4, l5, l6⟩ := allR_len
  have e : n = 1 ∨ n = 2 ∨ n = 3 ∨ n = 4 ∨ n = 5 := by omega
  rcases e with e | e | e | e | e <;> subst e
  · rw [l1]; with_unfolding_all rfl
  · rw [l2]; with_unfolding_all rfl
  · rw [l3]; with_unfolding_all rfl
  · rw [l4]; with_unfolding_all rfl
  · rw [l5]; with_unfolding_all rfl
/-! lists of tongues -/
theorem eqv_tD (x y : List (List Int)) : PyData.eqv (tD x).py (tD y).py = decide (x = y) := eqv_tmap fun a _ b _ => eqv_tints a b
theorem shp_tD (n : Nat) (x : List (List Int)) : (tD x).shp (n + 2) = true := shpL_map (n := n + 1) x fun w _ => shp_tints n w
theorem oNe_tD (x y : List (List Int)) : oNe (tD x) (tD y) = .ok (.val (.bl (decide (x ≠ y)))) := by
  show (if ((tD x).shp DEP && (tD y).shp DEP) = true then R.ok (S.val (D.bl (!PyData.eqv (tD x).py (tD y).py))) else .bad) = _
  rw [show (tD x).shp DEP = true from shp_tD 58 x, show (tD y).shp DEP = true from shp_tD 58 y, eqv_tD, decide_not]
  rfl
theorem shpL_tD (ks : List (List (List Int))) : D.shpL DEP (ks.map tD) = true := shpL_map ks fun x _ => shp_tD 58 x
theorem oNotIn_tD {t : List (List Int)} {ks : List (List (List Int))} (h : t ∈ ks) : oNotIn (tD t) (.lst (ks.map tD)) = .ok (.val (.bl false)) := by
  have e : ((ks.map tD).any fun z => PyData.eqv z.py (tD t).py) = true := List.any_eq_true.mpr ⟨tD t, List.mem_map.mpr ⟨t, h, rfl⟩, by rw [eqv_tD]; simp⟩
  show (if ((tD t).shp DEP && D.shpL DEP (ks.map tD)) = true then R.ok (S.val (D.bl (!(ks.map tD).any fun z => PyData.eqv z.py (tD t).py))) else .bad) = _
  rw [e, shpL_tD, show (tD t).shp DEP = true from shp_tD 58 t]
  rfl
theorem idx_tD (t : List (List Int)) : ∀ (ks : List (List (List Int))) (k : Nat), t ∈ ks → ∃ j, idxN (tD t) k (ks.map tD) = some (k + j) ∧ ks[j]? = some t
  | [], _, h => by cases h
  | x :: ks, k, h => by
    rw [List.map_cons, idxN, eqv_tD]
    by_cases e : x = t
    · rw [if_pos (by simp [e])]
      exact ⟨0, rfl, by rw [e]; rfl⟩
    · rw [if_neg (by simp [e])]
      obtain ⟨j, h1, h2⟩ := idx_tD t ks (k + 1) ((List.mem_cons.mp h).resolve_left fun z => e z.symm)
      exact ⟨j + 1, by rw [h1]; congr 1; omega, h2⟩
theorem oIndex_tD {t : List (List Int)} {ks : List (List (List Int))} (h : t ∈ ks) : ∃ j : Nat, oIndex (.lst (ks.map tD)) (tD t) = .ok (.val (.int (j : Int))) ∧ ks[j]? = some t := by
  obtain ⟨j, h1, h2⟩ := idx_tD t ks 0 h
  refine ⟨j, ?_, h2⟩
  show (if ((tD t).shp DEP && D.shpL DEP (ks.map tD)) = true then (match idxN (tD t) 0 (ks.map tD) with | some k => R.ok (S.val (D.int k)) | none => .bad) else .bad) = _
  rw [h1, shpL_tD, show (tD t).shp DEP = true from shp_tD 58 t, Nat.zero_add]
  rfl
@[simp] theorem eLenSetN_eq (m : Ex) (e : En) : eLenSetN m e = (m e).bind kLenSetN := rfl
theorem nKeys_tD : ∀ ks : List (List (List Int)), nKeys (ks.map tD) = some (ks.map nkt)
  | [] => rfl
  | t :: ks => by rw [List.map_cons, nKeys, nKey_tD, nKeys_tD ks]; rfl
theorem lenSet_tD {ks : List (List (List Int))} (nd : ks.Nodup) (hl : ks.length < 64) (s : S) (hs : s.d = .lst (ks.map tD)) : kLenSetN s = .ok (.val (.int ks.length)) := by
  have nd2 : (ks.map nkt).Nodup := by
    unfold List.Nodup at *
    rw [List.pairwise_map]
    exact nd.imp fun h e => h (nkt_inj e)
  unfold kLenSetN
  simp only [hs, nKeys_tD]
  rw [if_pos ⟨nd2, by rw [List.length_map]; exact hl⟩, List.length_map]
theorem tupsOf_tn : ∀ ls : List (List Int), tupsOf (ls.map tnum) = some ls
  | [] => rfl
  | l :: ls => by rw [List.map_cons, tupsOf, ints_map, tupsOf_tn ls]
theorem oMinT_tn (m : List Int) (ms : List (List Int)) : oMinT (.lst ((m :: ms).map tnum)) = .ok (.val (tnum (minL m ms))) := by
  unfold oMinT
  simp only [tupsOf_tn]
theorem oGtT_tn (a b : List Int) : oGtT (tnum a) (tnum b) = .ok (.val (.bl (HT.lexLt b a))) := by
  unfold oGtT
  simp only [ints_map]
end Tg

namespace Tg
open PySem L2
theorem flat_ent (W : Wss) (n : Nat) (t : List (List Int)) : (entD W n t).flat = true := by
  have h := flat_tD t
  simp [entD, h]
end Tg

namespace Tg
open PySem L2
theorem many_ex (c : Int) : ∃ n : Nat, atI [D.int 1, D.int 2, D.int 3, D.int 4, D.int 4, D.int 5] (c % 6) = some (.int (n : Int)) ∧ 1 ≤ n ∧ n ≤ 5 := by
  have h : c % 6 = 0 ∨ c % 6 = 1 ∨ c % 6 = 2 ∨ c % 6 = 3 ∨ c % 6 = 4 ∨ c % 6 = 5 := by omega
  rcases h with h | h | h | h | h | h <;> rw [h]
  · exact ⟨1, rfl, by decide, by decide⟩
  · exact ⟨2, rfl, by decide, by decide⟩
  · exact ⟨3, rfl, by decide, by decide⟩
  · exact ⟨4, rfl, by decide, by decide⟩
  · exact ⟨4, rfl, by decide, by decide⟩
  · exact ⟨5, rfl, by decide, by decide⟩
theorem most_ex (n : Nat) : ∃ m : Nat, atI [D.int 5, D.int 3] (if n = 5 then 1 else 0) = some (.int (m : Int)) ∧ 1 ≤ m ∧ m ≤ 5 ∧ (n = 5 → m ≤ 3) := by
  by_cases h : n = 5
  · rw [if_pos h]; exact ⟨3, rfl, by decide, by decide, fun _ => by decide⟩
  · rw [if_neg h]; exact ⟨5, rfl, by decide, by decide, fun z => absurd z h⟩
theorem law_true (ns : List Int) (h : ns.length ≤ 63) : F_law [.scr ns] = .ok (.val (.bl true)) := by
  have c0 := cell_at_eq (ns := ns) (k := 0) (by decide)
  obtain ⟨n, en, hn⟩ := many_ex (cellAt ns 0)
  obtain ⟨mo, em, hm1, hm5, hm3⟩ := most_ex n
  obtain ⟨q, hq⟩ : ∃ q : Nat, (q : Int) = 1 + cellAt ns 0 / 6 % 2 := ⟨(1 + cellAt ns 0 / 6 % 2).toNat, by omega⟩
  have hq2 : 1 ≤ q ∧ q ≤ 2 := by omega
  have hz : -1000000 ≤ (q : Int) ∧ (q : Int) ≤ 1000000 := by omega
  refine W_eq (runB_W ?_)
  simp -implicitDefEqProofs [-List.map_map, body_law, c0, en, ← hq, hz]
  refine W_bind.2 (W_rows (mk := words) (rng q) .int (fun ws => OkW n ws ∧ ws.length ≤ mo) (by rw [rangeL_rng, Int.toNat_natCast]) (by rw [rng_len]; omega) ?_ ?_)
  · intro k hk
    have hk' := rng_mem hk
    obtain ⟨ws, e1, h1, hl, hw⟩ := word2 ns (at' := 1 + 7 * k) (most := (mo : Int)) (m := (n : Int)) (by omega) (by omega) (by omega) (by omega)
    rw [Int.toNat_natCast] at hw
    have hk2 : k.natAbs < 2 ^ 200 := Nat.lt_of_lt_of_le (show k.natAbs < 10 by omega) (by decide)
    have h7 : (7 : Int).natAbs < 2 ^ 200 := by decide
    have e5 : ((n : Int) = 5) ↔ n = 5 := by omega
    simp -implicitDefEqProofs [-List.map_map, e1, hk2, h7, em, e5]
    exact ⟨ws, rfl, ⟨⟨h1, by omega⟩, hw⟩, by omega⟩
  · intro W hWl hws0
    rw [rng_len] at hWl
    have hws : ∀ ws ∈ W, OkW n ws := fun ws hw => (hws0 ws hw).1
    have hW2 : W.length ≤ 2 := by omega
    have et := tongues_eq (n := n) (W := W) (by omega) (by omega) hws
    have ef : D.flatL ((Tks W n).map (entD W n)) = true := flatL_map (flat_ent W n) _
    have hfw : D.flatL (W.map words) = true := flatL_map (fun ws => by simp [words]) W
    simp -implicitDefEqProofs [-List.map_map, et, ef, hfw]
    have few : (Tks W n).length < 64 := tks_64 hn.2 hW2 hws fun e ws hw => Nat.le_trans (hws0 ws hw).2 (hm3 e)
    have hls := lenSet_tD (keysL_nodup (W := W) (allR n n)) few (.val (.lst ((Tks W n).map tD))) rfl
    have hor := orders_eq hn
    have hsum : ((Tks W n).map fun t => ((cnt W (allR n n) t : Nat) : Int)).sum = ((allR n n).length : Int) := by
      have e1 := sum_cast ((Tks W n).map (cnt W (allR n n)))
      rw [List.map_map] at e1
      rw [← cnt_sum (W := W) (allR n n)]
      exact e1
    have hft : D.flatL ((Tks W n).map tD) = true := flatL_map flat_tD _
    refine W_bind.2 (W_cm (Tks W n) (entD W n) tD (fun t => t) rfl (by omega) ?_ ?_)
    · intro t ht
      simp -implicitDefEqProofs [entD]
    · rw [List.map_id']
      simp -implicitDefEqProofs [-List.map_map, hls, hft]
      refine W_bind.2 (W_cm (Tks W n) (entD W n) .int (fun t => ((cnt W (allR n n) t : Nat) : Int)) rfl (by omega) ?_ ?_)
      · intro t ht
        simp -implicitDefEqProofs [entD]
      · simp -implicitDefEqProofs [-List.map_map, hor, hsum]
        refine W_bind.2 (W_forM (Tks W n) (entD W n) rfl (fun done e => ∃ (x6 x7 x8 : Option S), e = [some (.val (.scr ns)), some (.val (.int (cellAt ns 0))), some (.val (.int n)), some (.own (W.map words)), some (.val (.lst ((Tks W n).map (entD W n)))), some (.own ((Tks W n).map tD)), x6, x7, x8, none, none, none, none, none, none, none]) ⟨_, _, _, rfl⟩ ?_ ?_)
        · rintro done t post e hx ⟨x6, x7, x8, rfl⟩
          have ht := mem_mid hx
          obtain ⟨hf1, hf2⟩ := frst_mem ht
          have hrk := allR_rk hf1
          have e1 := law_tongue_eq (r := frst W (allR n n) t) (by omega) hws hrk
          obtain ⟨s, e2, e3⟩ := rowsT_eq (n := n) (W := W) (r := frst W (allR n n) t) (by omega) (by omega) hws
          have e4 := how_many_eq (n := n) (rows := tRows W (frst W (allR n n) t)) (by omega) (tRows_row hws _)
          rw [tRows_fitR hws hrk] at e4
          rw [hf2] at e1 e2 e4
          have e5 := oNe_tD t t
          have hc : ¬ ((cnt W (allR n n) t : Nat) : Int) < 1 := by
            have : haveT W (allR n n) t ≠ [] := fun z => haveT_nil.mp z ht
            have := List.length_pos_iff.mpr this
            unfold cnt
            omega
          have e6 : (haveT W (allR n n) t).length = cnt W (allR n n) t := rfl
          rw [e6] at e4
          generalize hF : frst W (allR n n) t = F at *
          generalize hC : cnt W (allR n n) t = C at *
          have e7 : entD W n t = .tup [tD t, tnum F, .int C] := by unfold entD; rw [hF, hC]
          rw [e7]
          simp -implicitDefEqProofs [-List.map_map, e1, e2, e3, e4, e5, hc]
        · rintro e ⟨x6, x7, x8, rfl⟩
          simp -implicitDefEqProofs [-List.map_map]
          generalize hC : cutL ns (some 19) (some 63) = C
          refine W_bind.2 (W_forM C D.int rfl (fun done e => ∃ (x6 x7 x8 x9 x10 : Option S), e = [some (.val (.scr ns)), some (.val (.int (cellAt ns 0))), some (.val (.int n)), some (.own (W.map words)), some (.val (.lst ((Tks W n).map (entD W n)))), some (.own ((Tks W n).map tD)), x6, x7, x8, x9, x10, none, none, none, none, none]) ⟨_, _, _, _, _, rfl⟩ ?_ ?_)
          · rintro done c post e hx ⟨x6, x7, x8, x9, x10, rfl⟩
            obtain ⟨r, er, hr⟩ := ranking2 c (m := (n : Int)) (by omega) (by omega)
            rw [Int.toNat_natCast] at hr
            have e1 := law_tongue_eq (by omega) hws hr
            have ht : tong W r ∈ Tks W n := (mem_keysL _ _).mpr ⟨r, rk_allR hr, rfl⟩
            have e2 := oNotIn_tD ht
            obtain ⟨j, e3, e4⟩ := oIndex_tD ht
            have e5 := oGtT_tn (frst W (allR n n) (tong W r)) r
            rw [frst_low ht hr rfl] at e5
            simp -implicitDefEqProofs [-List.map_map, er, e1, e2, e3, e4, entD, e5]
          · rintro e ⟨x6, x7, x8, x9, x10, rfl⟩
            obtain ⟨ws, W', eW⟩ : ∃ ws W', W = ws :: W' := by
              cases W with
              | nil => simp at hWl; omega
              | cons ws W' => exact ⟨ws, W', rfl⟩
            have hw0 : (W.map words)[0]? = some (words ws) := by rw [eW]; rfl
            obtain ⟨⟨hw1, hw5⟩, hwl⟩ := hws ws (by rw [eW]; exact List.mem_cons_self)
            have hz2 : -1000000 ≤ (ws.length : Int) ∧ (ws.length : Int) ≤ 1000000 := by omega
            have hlw : oLen (words ws) = .ok (.val (.int ws.length)) := by simp [words]
            simp -implicitDefEqProofs [-List.map_map, -List.getElem?_map, hw0, hlw, hz2]
            refine W_bind.2 (W_range (fun i e => ∃ (x6 x7 x8 x9 x10 x11 x12 : Option S), e = [some (.val (.scr ns)), some (.val (.int (cellAt ns 0))), some (.val (.int n)), some (.own (W.map words)), some (.val (.lst ((Tks W n).map (entD W n)))), some (.own ((Tks W n).map tD)), x6, x7, x8, x9, x10, x11, x12, none, none, none]) ⟨_, _, _, _, _, _, _, rfl⟩ ?_ ?_)
            · rintro i e hi ⟨x6, x7, x8, x9, x10, x11, x12, rfl⟩
              have hii : (0 : Int) ≤ i ∧ (i : Int) < ws.length := by omega
              obtain ⟨b, d, ec, hc⟩ := chance_ex (n := n) (ws := ws) (by omega) (by omega) hwl hii
              simp -implicitDefEqProofs [-List.map_map, -List.getElem?_map]
              refine W_bind.2 (W_cf (Tks W n) (entD W n) tnum (frst W (allR n n)) (fun t => decide ((i : Int) ∈ t.headD [])) rfl (by omega) ?_ ?_)
              · intro t ht
                have h2 := (frst_mem ht).2
                have h3 : (t.map fun w => D.tup (w.map .int))[0]? = some (tnum (t.headD [])) := by
                  rw [← h2, eW]
                  rfl
                generalize t.headD [] = T at h3 ⊢
                by_cases c : (i : Int) ∈ T
                · simp -implicitDefEqProofs [-List.getElem?_map, entD, tD, h3, c]
                · simp -implicitDefEqProofs [-List.getElem?_map, entD, tD, h3, c]
              · rw [show ((Tks W n).filter fun t => decide ((i : Int) ∈ t.headD [])).map (frst W (allR n n)) = fsts W n i from rfl]
                have hff : D.flatL ((fsts W n i).map tnum) = true := flatL_tnum _
                cases b with
                | true =>
                  obtain ⟨r, rfl, hh⟩ := hc.1 rfl
                  obtain ⟨m, ms, e1, e2⟩ := fsts_min eW hwl hii hh
                  have e3 := oMinT_tn m ms
                  rw [e2, ← e1] at e3
                  have e4 : 0 < (fsts W n i).length := by rw [e1, List.length_cons]; omega
                  generalize fsts W n i = G at *
                  simp -implicitDefEqProofs [-List.map_map, -List.getElem?_map, hff, hw0, ec, e3, e4]
                | false =>
                  have e1 := fsts_none eW hwl hii (hc.2 rfl)
                  simp -implicitDefEqProofs [-List.map_map, -List.getElem?_map, hff, hw0, ec, e1]
            · rintro e ⟨x6, x7, x8, x9, x10, x11, x12, rfl⟩
              simp
end Tg

open PySem PySem.W PyProof.Rows in
set_option maxRecDepth 100000 in
set_option maxHeartbeats 0 in
theorem PySem.Challenge.cw_tonguerank_k92_whole_every_ranking_holds : PySem.Challenge.rw_tonguerank_k92_whole_every_ranking.Holds := by
  w_on; o_law; k_head; (case hw => w_witness2)
  k_fill
  refine Tg.walk_T (l := PySem.Challenge.rw_tonguerank_k92_whole_every_ranking) (n := 63) (k := 4) (x := "_law_script") (CX := fun w => L2.CX PySem.Challenge.rw_tonguerank_k92_whole_every_ranking.prog w) rfl (by decide) rfl ⟨rfl, by decide, by decide⟩ (fun w h Y => PySem.W.km_in_of Y) ?F (fun w H s u s2 hx => Tg.cx_end hx)
  case F =>
    intro w mg fa h Y KX G hmg tb
    refine' Tg.all_mk KX G hmg ?a0 ?l0 ?c0 ?k0 ?a1 ?l1 ?c1 ?k1 ?a2 ?l2 ?c2 ?k2 ?a3 ?l3 ?c3 ?k3 ?a4 ?l4 ?c4 ?k4 ?a5 ?l5 ?c5 ?k5 ?a6 ?l6 ?c6 ?k6 ?a7 ?l7 ?c7 ?k7 ?a8 ?l8 ?c8 ?k8 ?a9 ?l9 ?c9 ?k9 ?a10 ?l10 ?c10 ?k10 ?a11 ?l11 ?c11 ?k11 ?a12 ?l12 ?c12 ?k12 ?a13 ?l13 ?c13 ?k13 ?a14 ?l14 ?c14 ?k14 ?a15 ?l15 ?c15 ?k15 ?a16 ?l16 ?c16 ?k16 ?a17 ?l17 ?c17 ?k17 ?a18 ?l18 ?c18 ?k18 ?a19 ?l19 ?c19 ?k19 ?a20 ?l20 ?c20 ?k20 ?a21 ?l21 ?c21 ?k21 ?z_int ?z_len ?z_list ?z_min ?z_range ?z_set ?z_sorted ?z_sum ?z_tuple ?z_zip ?g_SIGNS ?tI ?nP ?cdE (fun c P e => tb "tongues" _ c P rfl e) Tg.law_true
    (case a0 => k_is)
    (case l0 => k_is)
    (case c0 => k_is)
    (case k0 => k_is)
    (case a1 => k_is)
    (case l1 => k_is)
    (case c1 => k_is)
    (case k1 => k_is)
    (case a2 => k_is)
    (case l2 => k_is)
    (case c2 => k_is)
    (case k2 => k_is)
    (case a3 => k_is)
    (case l3 => k_is)
    (case c3 => k_is)
    (case k3 => k_is)
    (case a4 => k_is)
    (case l4 => k_is)
    (case c4 => k_is)
    (case k4 => k_is)
    (case a5 => k_is)
    (case l5 => k_is)
    (case c5 => k_is)
    (case k5 => k_is)
    (case a6 => k_is)
    (case l6 => k_is)
    (case c6 => k_is)
    (case k6 => k_is)
    (case a7 => k_is)
    (case l7 => k_is)
    (case c7 => k_is)
    (case k7 => k_is)
    (case a8 => k_is)
    (case l8 => k_is)
    (case c8 => k_is)
    (case k8 => k_is)
    (case a9 => k_is)
    (case l9 => k_is)
    (case c9 => k_is)
    (case k9 => k_is)
    (case a10 => k_is)
    (case l10 => k_is)
    (case c10 => k_is)
    (case k10 => k_is)
    (case a11 => k_is)
    (case l11 => k_is)
    (case c11 => k_is)
    (case k11 => k_is)
    (case a12 => k_is)
    (case l12 => k_is)
    (case c12 => k_is)
    (case k12 => k_is)
    (case a13 => k_is)
    (case l13 => k_is)
    (case c13 => k_is)
    (case k13 => k_is)
    (case a14 => k_is)
    (case l14 => k_is)
    (case c14 => k_is)
    (case k14 => k_is)
    (case a15 => k_is)
    (case l15 => k_is)
    (case c15 => k_is)
    (case k15 => k_is)
    (case a16 => k_is)
    (case l16 => k_is)
    (case c16 => k_is)
    (case k16 => k_is)
    (case a17 => k_is)
    (case l17 => k_is)
    (case c17 => k_is)
    (case k17 => k_is)
    (case a18 => k_is)
    (case l18 => k_is)
    (case c18 => k_is)
    (case k18 => k_is)
    (case a19 => k_is)
    (case l19 => k_is)
    (case c19 => k_is)
    (case k19 => k_is)
    (case a20 => k_is)
    (case l20 => k_is)
    (case c20 => k_is)
    (case k20 => k_is)
    (case a21 => k_is)
    (case l21 => k_is)
    (case c21 => k_is)
    (case k21 => k_is)
    (case z_int => k_is)
    (case z_len => k_is)
    (case z_list => k_is)
    (case z_min => k_is)
    (case z_range => k_is)
    (case z_set => k_is)
    (case z_sorted => k_is)
    (case z_sum => k_is)
    (case z_tuple => k_is)
    (case z_zip => k_is)
    (case g_SIGNS => k_is)
    (case tI => with_unfolding_all exact rfl)
    (case nP => rfl)
    (case cdE => rfl)
