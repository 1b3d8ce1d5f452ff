import PyProof.Rows.All
import Wide.All
import OpenK.AllK
import Wide.FinOn
import HandS.ForMost
import HandS.ForExc
import HandS.TupAny
import HandS.TupMul
import HandS.Deep
import HandS.More
import HandS.Conv
import HandS.Strs
import HandS.Flow
import HandS.Style
import HandS.Zip
import HandS.SortKw
import HandS.Defaults
import KE.KDictKeyed
import KE.SortKeyHeap
import PyProof.ReprRoads
import KE.GoesEnum
import KE.GoesZip
import HandS.Walk
import HandS.Rev
import HandS.Words
import KE.KDictDisplayH
import PyProof.Rows.ReprShort
import PyProof.Rows.RegFStrParts
import PyProof.Rows.ReprOcc
import HandS.Keys
import KE.KDictCopyH
import KE.KDictSum
import KE.KDictWalk
import HandS.Iter
import KE.KDictPairs
import PySem.Challenge.RW_fullsense_k82_whole_primes
set_option Elab.async false
set_option linter.all false
set_option maxRecDepth 100000
set_option maxHeartbeats 4000000
namespace MP
open PySem PySem.Spec PyProof.Rows L2

/-! ## values, slots, cells -/
/-- what a dict that will not change any more may hold -/
inductive Wv where
  | v (d : PyData)
  | ref (l : Nat)
inductive U where
  | v (d : PyData)
  | ref (l : Nat)
  | scr (ns : List Int)
  | fd (kvs : List (PyData × Wv))
def Wv.u : Wv → U
  | .v d => .v d
  | .ref l => .ref l
def Wv.kvs (kvs : List (PyData × Wv)) : List (PyData × U) := kvs.map fun p => (p.1, p.2.u)
inductive O where
  | u (x : U)
  | ol (xs : List PyData)
  | od (kvs : List (PyData × U))
inductive Cell where
  | cl (xs : List PyData)
  | cd (kvs : List (PyData × U))
structure Stt where
  r : List (Option O)
  S : List Cell
  h : List O := []
inductive Tag where
  | no
  | fz (o : HO)
  | cell (l : Nat)
  | slot (i : Nat)
  | hold (n : Nat)
  | tmp
/-- a place that a name of the def's, or a held result, stands for -/
def Tag.own : Tag → Prop
  | .slot _ => True
  | .hold _ => True
  | _ => False
structure Wd where
  H0 : Hp
  T0 : Addr → Tag
  T : Addr → Tag
  M : List Addr
  hv : List V := []
structure Bs where
  P : Program
  w : World
  K : PySem.W.Frag
abbrev bsX (X : Cx) : Bs := ⟨X.prog, X.w, X.K⟩

def Wd.F (w : Wd) : Hp := fun a => match w.T a with
  | .fz o => some o
  | _ => none
theorem Wd.F_iff {w : Wd} {a : Addr} {o : HO} : w.F a = some o ↔ w.T a = .fz o := by
  unfold Wd.F
  cases w.T a <;> simp
def Wd.set (w : Wd) (a : Addr) (tg : Tag) : Wd := { w with T := fun b => if b = a then tg else w.T b }
theorem Wd.set_same {w : Wd} {a : Addr} {tg : Tag} : (w.set a tg).T a = tg := by simp [Wd.set]
theorem Wd.set_ne {w : Wd} {a b : Addr} {tg : Tag} (h : b ≠ a) : (w.set a tg).T b = w.T b := by simp [Wd.set, h]

structure Le (w w' : Wd) : Prop where
  h0 : w'.H0 = w.H0
  t0 : w'.T0 = w.T0
  fz : ∀ a o, w.T a = .fz o → w'.T a = .fz o
  ce : ∀ a l, w.T a = .cell l → w'.T a = .cell l
  m : ∀ (l : Nat) (a : Addr), w.M[l]? = some a → w'.M[l]? = some a
  hv : w'.hv = w.hv
theorem Le.rfl' (w : Wd) : Le w w := ⟨rfl, rfl, fun _ _ h => h, fun _ _ h => h, fun _ _ h => h, rfl⟩
theorem Le.trans {a b c : Wd} (p : Le a b) (q : Le b c) : Le a c :=
  ⟨q.h0.trans p.h0, q.t0.trans p.t0, fun x o h => q.fz x o (p.fz x o h), fun x l h => q.ce x l (p.ce x l h), fun l x h => q.m l x (p.m l x h), q.hv.trans p.hv⟩
theorem Le.sub {w w' : Wd} (h : Le w w') : ∀ a o, w.F a = some o → w'.F a = some o := fun a o e =>
  Wd.F_iff.mpr (h.fz a o (Wd.F_iff.mp e))
theorem Le.set {w : Wd} {a : Addr} {tg : Tag} (h1 : ∀ o, w.T a ≠ .fz o) (h2 : ∀ l, w.T a = .cell l → tg = .cell l) : Le w (w.set a tg) := by
  refine ⟨rfl, rfl, fun b o e => ?_, fun b l e => ?_, fun _ _ e => e, rfl⟩
  · by_cases hb : b = a
    · subst hb; exact absurd e (h1 o)
    · rw [Wd.set_ne hb]; exact e
  · by_cases hb : b = a
    · subst hb; rw [Wd.set_same]; exact h2 l e
    · rw [Wd.set_ne hb]; exact e

mutual
inductive Rp (F : Hp) : PyData → V → Prop
  | non : Rp F .none .non
  | bl (b : Bool) : Rp F (.bool b) (.bl b)
  | int (i : Int) : Rp F (.int i) (.int i)
  | str (x : Str) : Rp F (.str x) (.str x)
  | lst {a : Addr} {vs : List V} {ds : List PyData} : F a = some (.lst vs) → RpAll F ds vs → Rp F (.list ds) (.ref a)
  | tup {a : Addr} {o : Obj} {vs : List V} {ds : List PyData} : F a = some (.frz o (.tup vs)) → o.dict = none → RpAll F ds vs → Rp F (.tuple ds) (.ref a)
inductive RpAll (F : Hp) : List PyData → List V → Prop
  | nil : RpAll F [] []
  | cons {d : PyData} {ds : List PyData} {v : V} {vs : List V} : Rp F d v → RpAll F ds vs → RpAll F (d :: ds) (v :: vs)
end
mutual
theorem Rp.mono {F F' : Hp} (h : ∀ a o, F a = some o → F' a = some o) : ∀ {d : PyData} {v : V}, Rp F d v → Rp F' d v
  | _, _, .non => .non
  | _, _, .bl b => .bl b
  | _, _, .int i => .int i
  | _, _, .str x => .str x
  | _, _, .lst e r => .lst (h _ _ e) (RpAll.mono h r)
  | _, _, .tup e d r => .tup (h _ _ e) d (RpAll.mono h r)
theorem RpAll.mono {F F' : Hp} (h : ∀ a o, F a = some o → F' a = some o) : ∀ {d : List PyData} {v : List V}, RpAll F d v → RpAll F' d v
  | _, _, .nil => .nil
  | _, _, .cons r t => .cons (Rp.mono h r) (RpAll.mono h t)
end
mutual
theorem Rp.dp {F H : Hp} {K : PySem.W.Frag} (h : ∀ a o, F a = some o → H a = some o) : ∀ {d : PyData} {v : V}, Rp F d v → Dp K H v d
  | _, _, .non => .non
  | _, _, .bl b => .bl b
  | _, _, .int i => .int i
  | _, _, .str x => .str x
  | _, _, .lst e r => .lst (SqL.of (h _ _ e)) (RpAll.dp h r)
  | _, _, .tup e _ r => .tup (.inl (.inr ⟨_, h _ _ e⟩)) (RpAll.dp h r)
theorem RpAll.dp {F H : Hp} {K : PySem.W.Frag} (h : ∀ a o, F a = some o → H a = some o) : ∀ {d : List PyData} {v : List V}, RpAll F d v → DpAll K H v d
  | _, _, .nil => .nil
  | _, _, .cons r t => .cons (Rp.dp h r) (RpAll.dp h t)
end
section
variable {F : Hp}
theorem RpAll.length : ∀ {ds : List PyData} {vs : List V}, RpAll F ds vs → ds.length = vs.length
  | _, _, .nil => rfl
  | _, _, .cons _ t => by simp [RpAll.length t]
theorem RpAll.app : ∀ {ds es : List PyData} {vs us : List V}, RpAll F ds vs → RpAll F es us → RpAll F (ds ++ es) (vs ++ us)
  | _, _, _, _, .nil, s => s
  | _, _, _, _, .cons r t, s => .cons r (t.app s)
theorem RpAll.get : ∀ {ds : List PyData} {vs : List V} {i : Nat} {d : PyData}, RpAll F ds vs → ds[i]? = some d → ∃ v, vs[i]? = some v ∧ Rp F d v
  | _, _, _, _, .nil, e => by simp at e
  | _, _, 0, _, .cons r _, e => by simp at e; subst e; exact ⟨_, rfl, r⟩
  | _, _, i + 1, _, .cons _ t, e => by
    obtain ⟨v, h1, h2⟩ := t.get (i := i) (by simpa using e)
    exact ⟨v, by simpa using h1, h2⟩
theorem RpAll.getV : ∀ {ds : List PyData} {vs : List V} {i : Nat} {v : V}, RpAll F ds vs → vs[i]? = some v → ∃ d, ds[i]? = some d ∧ Rp F d v
  | _, _, _, _, .nil, e => by simp at e
  | _, _, 0, _, .cons r _, e => by simp at e; subst e; exact ⟨_, rfl, r⟩
  | _, _, i + 1, _, .cons _ t, e => by
    obtain ⟨v, h1, h2⟩ := t.getV (i := i) (by simpa using e)
    exact ⟨v, by simpa using h1, h2⟩
theorem RpAll.take : ∀ (n : Nat) {ds : List PyData} {vs : List V}, RpAll F ds vs → RpAll F (ds.take n) (vs.take n)
  | 0, _, _, _ => by simpa using RpAll.nil
  | n + 1, _, _, .nil => by simpa using RpAll.nil
  | n + 1, _, _, .cons r t => by simpa using RpAll.cons r (t.take n)
theorem RpAll.drop : ∀ (n : Nat) {ds : List PyData} {vs : List V}, RpAll F ds vs → RpAll F (ds.drop n) (vs.drop n)
  | 0, _, _, h => by simpa using h
  | n + 1, _, _, .nil => by simpa using RpAll.nil
  | n + 1, _, _, .cons r t => by simpa using t.drop n
theorem RpAll.set {d : PyData} {v : V} (r : Rp F d v) : ∀ (i : Nat) {ds : List PyData} {vs : List V}, RpAll F ds vs → RpAll F (ds.set i d) (vs.set i v)
  | _, _, _, .nil => .nil
  | 0, _, _, .cons _ t => .cons r t
  | i + 1, _, _, .cons q t => .cons q (t.set r i)
theorem RpAll.erase : ∀ (i : Nat) {ds : List PyData} {vs : List V}, RpAll F ds vs → RpAll F (ds.eraseIdx i) (vs.eraseIdx i)
  | _, _, _, .nil => .nil
  | 0, _, _, .cons _ t => t
  | i + 1, _, _, .cons q t => .cons q (t.erase i)
theorem RpAll.reverse : ∀ {ds : List PyData} {vs : List V}, RpAll F ds vs → RpAll F ds.reverse vs.reverse
  | _, _, .nil => .nil
  | _, _, .cons r t => by
    rw [List.reverse_cons, List.reverse_cons]
    exact t.reverse.app (.cons r .nil)
theorem RpAll.flat {ds : List PyData} {vs : List V} (h : RpAll F ds vs) : ∀ k : Nat, RpAll F (List.replicate k ds).flatten (List.replicate k vs).flatten
  | 0 => .nil
  | k + 1 => by
    rw [List.replicate_succ, List.replicate_succ, List.flatten_cons, List.flatten_cons]
    exact h.app (h.flat k)
theorem RpAll.ints : ∀ {ns : List Int} {vs : List V}, RpAll F (ns.map .int) vs → vs = ns.map V.int
  | [], _, h => by cases h; rfl
  | n :: ns, _, h => by
    cases h with
    | cons r t =>
      cases r
      rw [t.ints]
      rfl
theorem RpAll.ofInts : ∀ (ns : List Int), RpAll F (ns.map .int) (ns.map V.int)
  | [] => .nil
  | n :: ns => .cons (.int n) (RpAll.ofInts ns)
theorem RpAll.bools : ∀ {ns : List Bool} {vs : List V}, RpAll F (ns.map .bool) vs → vs = ns.map V.bl
  | [], _, h => by cases h; rfl
  | n :: ns, _, h => by
    cases h with
    | cons r t =>
      cases r
      rw [t.bools]
      rfl
end

/-! ## dicts -/
def keyV : PyData → Option Key
  | .int i => some (.inl i)
  | .str x => some (.inr x)
  | _ => none
mutual
def nk : PyData → Option NestedKey
  | .none => some .none
  | .int i => some (.num i)
  | .str x => some (.text x)
  | .tuple xs => (nks xs).map .tup
  | _ => none
def nks : List PyData → Option (List NestedKey)
  | [] => some []
  | x :: xs => (nk x).bind fun k => (nks xs).map fun ks => k :: ks
end
/-- a key that a dict may have: numbers, texts, none, tuples of such, to depth 8 -/
def kf (d : PyData) : Option NestedKey := (nk d).bind fun k => if k.depth ≤ 8 then some k else none
def isTup : PyData → Bool
  | .tuple _ => true
  | _ => false
/-- a dict whose keys are tuples, as it stands at a -/
def dHO (P : Program) (w : World) (a : Addr) (xs : List (NestedKey × Addr × V)) : HO := .ext fun h =>
  ∃ ys : List (NestedKey × Addr × Value), Paired (fun (x : NestedKey × Addr × V) (y : NestedKey × Addr × Value) => x.1 = y.1 ∧ x.2.1 = y.2.1 ∧ RelV x.2.2 y.2.2) xs ys ∧
    (a == sysModules) = false ∧ ys.length ≤ sizeLine ∧ ∃ o es ep, h.get? a = some o ∧ o.ExactDict ∧ o.data = .dict es ep ∧ es.toList = ys.map (entryOfKey (nestedKind P w)) ∧ (ys.map (·.1)).Nodup

def RW (w : Wd) : Wv → V → Prop
  | .v d, x => Rp w.F d x
  | .ref l, x => ∃ a, w.M[l]? = some a ∧ x = .ref a
def RFd (B : Bs) (w : Wd) (a : Addr) (kvs : List (PyData × Wv)) : Prop :=
  (∃ (o : Obj) (ys : List (Key × V)), w.F a = some (.frz o (.dK ys)) ∧ Paired (fun p q => keyV p.1 = some q.1 ∧ RW w p.2 q.2) kvs ys) ∨
  (kvs ≠ [] ∧ ∃ (o : Obj) (xs : List (NestedKey × Addr × V)), w.F a = some (.frz o (dHO B.P B.w a xs)) ∧
    Paired (fun p q => kf p.1 = some q.1 ∧ isTup p.1 = true ∧ Rp w.F p.1 (.ref q.2.1) ∧ RW w p.2 q.2.2) kvs xs)
def RU (B : Bs) (w : Wd) : U → V → Prop
  | .v d, x => Rp w.F d x
  | .ref l, x => ∃ a, w.M[l]? = some a ∧ x = .ref a
  | .scr ns, x => ∃ a, x = .ref a ∧ SqL B.K w.F a (ns.map V.int)
  | .fd kvs, x => ∃ a, x = .ref a ∧ RFd B w a kvs
def RDict (B : Bs) (w : Wd) (H : Hp) (a : Addr) (kvs : List (PyData × U)) : Prop :=
  (∃ ys : List (Key × V), H a = some (.dK ys) ∧ Paired (fun p q => keyV p.1 = some q.1 ∧ RU B w p.2 q.2) kvs ys) ∨
  (kvs ≠ [] ∧ ∃ xs : List (NestedKey × Addr × V), H a = some (dHO B.P B.w a xs) ∧
    Paired (fun p q => kf p.1 = some q.1 ∧ isTup p.1 = true ∧ Rp w.F p.1 (.ref q.2.1) ∧ RU B w p.2 q.2.2) kvs xs)
/-- .. that may be frozen -/
def RDictR (B : Bs) (w : Wd) (H : Hp) (a : Addr) (kvs : List (PyData × U)) : Prop :=
  (∃ ys : List (Key × V), Rd H a (.dK ys) ∧ Paired (fun p q => keyV p.1 = some q.1 ∧ RU B w p.2 q.2) kvs ys) ∨
  (kvs ≠ [] ∧ ∃ xs : List (NestedKey × Addr × V), Rd H a (dHO B.P B.w a xs) ∧
    Paired (fun p q => kf p.1 = some q.1 ∧ isTup p.1 = true ∧ Rp w.F p.1 (.ref q.2.1) ∧ RU B w p.2 q.2.2) kvs xs)
theorem RDict.r {B : Bs} {w : Wd} {H : Hp} {a : Addr} {kvs : List (PyData × U)} (h : RDict B w H a kvs) : RDictR B w H a kvs := by
  rcases h with ⟨ys, q, r⟩ | ⟨n, xs, q, r⟩
  · exact .inl ⟨ys, .inl q, r⟩
  · exact .inr ⟨n, xs, .inl q, r⟩
theorem RW.u {B : Bs} {w : Wd} : ∀ {x : Wv} {v : V}, RW w x v → RU B w x.u v
  | .v _, _, r => r
  | .ref _, _, r => r
theorem pairMapL {α β γ : Type} {G : γ → β → Prop} {f : α → γ} : ∀ {l : List α} {m : List β}, Paired (fun a b => G (f a) b) l m → Paired G (l.map f) m
  | _, _, .nil => .nil
  | _, _, .cons r t => .cons r (pairMapL t)
theorem RFd.r {B : Bs} {w : Wd} {H : Hp} {a : Addr} {kvs : List (PyData × Wv)} (hF : ∀ a o, w.F a = some o → H a = some o) (h : RFd B w a kvs) : RDictR B w H a (Wv.kvs kvs) := by
  have imp : ∀ {β : Type} {F G : PyData × Wv → β → Prop}, (∀ a b, F a b → G a b) → ∀ {l : List (PyData × Wv)} {m : List β}, Paired F l m → Paired G l m := by
    intro β F G f l m h
    induction h with
    | nil => exact .nil
    | cons r t ih => exact .cons (f _ _ r) ih
  rcases h with ⟨o, ys, q, r⟩ | ⟨n, o, xs, q, r⟩
  · exact .inl ⟨ys, .inr ⟨o, hF _ _ q⟩, pairMapL (imp (fun _ _ z => ⟨z.1, z.2.u⟩) r)⟩
  · exact .inr ⟨fun z => n (List.map_eq_nil_iff.mp z), xs, .inr ⟨o, hF _ _ q⟩, pairMapL (imp (fun _ _ z => ⟨z.1, z.2.1, z.2.2.1, z.2.2.2.u⟩) r)⟩
def RC (B : Bs) (w : Wd) (H : Hp) (a : Addr) : Cell → Prop
  | .cl xs => ∃ vs, H a = some (.lst vs) ∧ RpAll w.F xs vs
  | .cd kvs => RDict B w H a kvs
def RO (B : Bs) (w : Wd) (H : Hp) (tg : Tag) : O → V → Prop
  | .u x, v => RU B w x v
  | .ol xs, v => ∃ a, v = .ref a ∧ w.T a = tg ∧ RC B w H a (.cl xs)
  | .od kvs, v => ∃ a, v = .ref a ∧ w.T a = tg ∧ RC B w H a (.cd kvs)

theorem SqL.sub {K : PySem.W.Frag} {F F' : Hp} (h : ∀ a o, F a = some o → F' a = some o) {a : Addr} {xs : List V} (q : SqL K F a xs) : SqL K F' a xs := by
  rcases q with (q | ⟨o, q⟩) | q
  · exact .inl (.inl (h _ _ q))
  · exact .inl (.inr ⟨o, h _ _ q⟩)
  · exact .inr q
section
variable {B : Bs} {w w' : Wd} {H H' : Hp} {a : Addr}
theorem RW.mono (h : Le w w') : ∀ {x : Wv} {v : V}, RW w x v → RW w' x v
  | .v _, _, r => Rp.mono h.sub r
  | .ref _, _, ⟨a, e, q⟩ => ⟨a, h.m _ _ e, q⟩
theorem pairImp' {α β : Type} {F G : α → β → Prop} (f : ∀ a b, F a b → G a b) : ∀ {l : List α} {m : List β}, Paired F l m → Paired G l m
  | _, _, .nil => .nil
  | _, _, .cons r t => .cons (f _ _ r) (pairImp' f t)
theorem RFd.mono (h : Le w w') {kvs : List (PyData × Wv)} (r : RFd B w a kvs) : RFd B w' a kvs := by
  rcases r with ⟨o, ys, q, r⟩ | ⟨n, o, xs, q, r⟩
  · exact .inl ⟨o, ys, h.sub _ _ q, pairImp' (fun _ _ z => ⟨z.1, z.2.mono h⟩) r⟩
  · exact .inr ⟨n, o, xs, h.sub _ _ q, pairImp' (fun _ _ z => ⟨z.1, z.2.1, z.2.2.1.mono h.sub, z.2.2.2.mono h⟩) r⟩
theorem RU.mono (h : Le w w') : ∀ {x : U} {v : V}, RU B w x v → RU B w' x v
  | .v _, _, r => Rp.mono h.sub r
  | .ref _, _, ⟨a, e, q⟩ => ⟨a, h.m _ _ e, q⟩
  | .scr _, _, ⟨a, e, q⟩ => ⟨a, e, SqL.sub h.sub q⟩
  | .fd _, _, ⟨a, e, q⟩ => ⟨a, e, q.mono h⟩
theorem pairImp {α β : Type} {F G : α → β → Prop} (f : ∀ a b, F a b → G a b) : ∀ {l : List α} {m : List β}, Paired F l m → Paired G l m
  | _, _, .nil => .nil
  | _, _, .cons r t => .cons (f _ _ r) (pairImp f t)
theorem RDict.mono (h : Le w w') (e : H' a = H a) {kvs : List (PyData × U)} (r : RDict B w H a kvs) : RDict B w' H' a kvs := by
  rcases r with ⟨ys, q, r⟩ | ⟨n, xs, q, r⟩
  · exact .inl ⟨ys, e.trans q, pairImp (fun _ _ z => ⟨z.1, z.2.mono h⟩) r⟩
  · exact .inr ⟨n, xs, e.trans q, pairImp (fun _ _ z => ⟨z.1, z.2.1, z.2.2.1.mono h.sub, z.2.2.2.mono h⟩) r⟩
theorem RC.mono (h : Le w w') (e : H' a = H a) : ∀ {c : Cell}, RC B w H a c → RC B w' H' a c
  | .cl _, ⟨vs, q, r⟩ => ⟨vs, e.trans q, r.mono h.sub⟩
  | .cd _, r => RDict.mono h e r
/-- what stands at a cell's or a slot's place is an object -/
theorem RC.some : ∀ {c : Cell}, RC B w H a c → ∃ o, H a = some o
  | .cl _, ⟨vs, q, r⟩ => ⟨_, q⟩
  | .cd _, .inl ⟨ys, q, _⟩ => ⟨_, q⟩
  | .cd _, .inr ⟨_, xs, q, _⟩ => ⟨_, q⟩
theorem RC.mut : ∀ {c : Cell}, RC B w H a c → Mut (H a)
  | .cl _, ⟨vs, q, r⟩ => by rw [q]; trivial
  | .cd _, .inl ⟨ys, q, _⟩ => by rw [q]; trivial
  | .cd _, .inr ⟨_, xs, q, _⟩ => by rw [q]; trivial
end

structure SimH (B : Bs) (w : Wd) (H : Hp) (S : List Cell) : Prop where
  fh : ∀ a o, w.T a = .fz o → H a = some o
  lenM : w.M.length = S.length
  cm : ∀ (a : Addr) (l : Nat), w.T a = .cell l → w.M[l]? = some a
  cells : ∀ (l : Nat) (a : Addr) (c : Cell), w.M[l]? = some a → S[l]? = some c → w.T a = .cell l ∧ RC B w H a c
  free : ∀ a, H a = none → w.T a = .no
  base : ∀ b o, w.H0 b = some o → (∀ l, w.T0 b ≠ .cell l) → H b = some o
  tb : ∀ b o, w.H0 b = some o → w.T0 b = .no → w.T b = .no
  t0 : ∀ b, w.T0 b = .no ∨ (∃ o, w.T0 b = .fz o) ∨ ∃ l, w.T0 b = .cell l
  t0f : ∀ b o, w.T0 b = .fz o → w.T b = .fz o
  t0c : ∀ b l, w.T0 b = .cell l → w.T b = .cell l
structure SimR (B : Bs) (w : Wd) (σ : L2.St) (H : Hp) (r : List (Option O)) (h : List O) : Prop where
  len : r.length = σ.length
  lenH : h.length = w.hv.length
  slot : ∀ (i : Nat) (o : O), r[i]? = some (some o) → ∃ v, σ[i]? = some (some v) ∧ RO B w H (.slot i) o v
  held : ∀ (n : Nat) (o : O), h[n]? = some o → ∃ v, w.hv[n]? = some v ∧ RO B w H (.hold n) o v
structure Sim (B : Bs) (w : Wd) (σ : L2.St) (H : Hp) (st : Stt) : Prop where
  h : SimH B w H st.S
  r : SimR B w σ H st.r st.h

/-- a place that may be written here: no cell, not frozen -/
def Free1 (w : Wd) (H : Hp) (a : Addr) : Prop := (H a = none) ∨ (w.T a).own ∨ w.T a = .tmp
def Tag.plain : Tag → Prop
  | .no => False
  | .cell _ => False
  | _ => True
section
variable {B : Bs} {w w' : Wd} {H H' : Hp} {a : Addr} {S S' : List Cell} {σ : L2.St} {r : List (Option O)} {st : Stt}
theorem SimH.sub (h : SimH B w H S) : ∀ a o, w.F a = some o → H a = some o := fun a o e => h.fh a o (Wd.F_iff.mp e)
theorem SimH.own (h : SimH B w H S) {a : Addr} (h1 : w.T a ≠ .no) (h2 : ∀ o, w.T a ≠ .fz o) {o : HO} (e : w.H0 a = some o) : ∃ l, w.T0 a = .cell l := by
  rcases h.t0 a with z | ⟨o', z⟩ | z
  · exact absurd (h.tb a o e z) h1
  · exact absurd (h.t0f a o' z) (h2 o')
  · exact z
theorem SimH.fresh (h : SimH B w H S) {p : Addr} (hp : H p = none) : w.H0 p = none := by
  cases e : w.H0 p with
  | none => rfl
  | some o =>
    have t := h.free p hp
    by_cases q : ∃ l, w.T0 p = .cell l
    · obtain ⟨l, q⟩ := q
      rw [h.t0c p l q] at t
      cases t
    · have := h.base p o e fun l z => q ⟨l, z⟩
      rw [hp] at this
      cases this
theorem SimH.freeF (h : SimH B w H S) (f : Free1 w H a) : (∀ u, w.T a ≠ .fz u) ∧ ∀ l, w.T a ≠ .cell l := by
  rcases f with f | f | f
  · rw [h.free a f]; exact ⟨fun _ z => (nomatch z), fun _ z => (nomatch z)⟩
  · cases e : w.T a <;> rw [e] at f <;> first | exact f.elim | exact ⟨fun _ z => (nomatch z), fun _ z => (nomatch z)⟩
  · rw [f]; exact ⟨fun _ z => (nomatch z), fun _ z => (nomatch z)⟩
theorem SimH.freeO (h : SimH B w H S) (f : Free1 w H a) : w.H0 a = none := by
  rcases f with f | f
  · exact h.fresh f
  · cases e : w.H0 a with
    | none => rfl
    | some o =>
      have hn : w.T a ≠ .no := by
        rcases f with f | f
        · intro z
          rw [z] at f
          exact f
        · rw [f]; exact fun z => nomatch z
      have hf : ∀ u, w.T a ≠ .fz u := (h.freeF (.inr f)).1
      obtain ⟨l, z⟩ := h.own hn hf e
      exact absurd (h.t0c a l z) ((h.freeF (.inr f)).2 l)
theorem SimH.leFree (h : SimH B w H S) (f : Free1 w H a) (tg : Tag) : Le w (w.set a tg) :=
  Le.set (h.freeF f).1 fun l e => absurd e ((h.freeF f).2 l)
/-- a place of this def's gets a new content and a new tag (frozen, a slot's, the result's) -/
theorem SimH.put (h : SimH B w H S) {tg : Tag} {o : HO} (f : Free1 w H a) (ht : tg.plain) (hf : ∀ u, tg = .fz u → u = o) : SimH B (w.set a tg) (upd H a o) S := by
  have le := h.leFree f tg
  have h0 := h.freeO f
  have nc := (h.freeF f).2
  refine ⟨fun b u e => ?_, h.lenM, fun b l e => ?_, fun l b c e1 e2 => ?_, fun b e => ?_, fun b u e n => ?_, fun b u e n => ?_, h.t0, fun b u e => le.fz b u (h.t0f b u e), fun b l e => le.ce b l (h.t0c b l e)⟩
  · by_cases hb : b = a
    · subst hb
      rw [Wd.set_same] at e
      rw [upd_same, hf u e]
    · rw [Wd.set_ne hb] at e
      rw [upd_ne hb]
      exact h.fh b u e
  · by_cases hb : b = a
    · subst hb
      rw [Wd.set_same] at e
      subst e
      exact False.elim ht
    · rw [Wd.set_ne hb] at e
      exact h.cm b l e
  · obtain ⟨t, q⟩ := h.cells l b c e1 e2
    have hb : b ≠ a := by rintro rfl; exact nc l t
    rw [Wd.set_ne hb]
    exact ⟨t, q.mono le (upd_ne hb)⟩
  · by_cases hb : b = a
    · subst hb
      rw [upd_same] at e
      cases e
    · rw [upd_ne hb] at e
      rw [Wd.set_ne hb]
      exact h.free b e
  · have hb : b ≠ a := by
      rintro rfl
      rw [show w.H0 b = some u from e] at h0
      cases h0
    rw [upd_ne hb]
    exact h.base b u e n
  · have hb : b ≠ a := by
      rintro rfl
      rw [show w.H0 b = some u from e] at h0
      cases h0
    rw [Wd.set_ne hb]
    exact h.tb b u e n
/-- a cell is written -/
theorem SimH.cell (h : SimH B w H S) {l : Nat} {o : HO} {c : Cell} (hm : w.M[l]? = some a) (hl : l < S.length) (hc : RC B w (upd H a o) a c) : SimH B w (upd H a o) (S.set l c) := by
  have ta := (h.cells l a _ hm (List.getElem?_eq_getElem hl)).1
  refine ⟨fun b u e => ?_, by rw [List.length_set]; exact h.lenM, h.cm, fun l' b c' e1 e2 => ?_, fun b e => ?_, fun b u e n => ?_, h.tb, h.t0, h.t0f, h.t0c⟩
  · have hb : b ≠ a := by
      rintro rfl
      rw [ta] at e
      cases e
    rw [upd_ne hb]
    exact h.fh b u e
  · by_cases hl' : l' = l
    · subst hl'
      rw [List.getElem?_set_self hl] at e2
      cases e2
      obtain rfl : a = b := Option.some.inj (hm.symm.trans e1)
      exact ⟨ta, hc⟩
    · rw [List.getElem?_set_ne (Ne.symm hl')] at e2
      obtain ⟨t, q⟩ := h.cells l' b c' e1 e2
      have hb : b ≠ a := by
        rintro rfl
        rw [ta] at t
        cases t
        exact hl' rfl
      exact ⟨t, q.mono (Le.rfl' w) (upd_ne hb)⟩
  · by_cases hb : b = a
    · subst hb
      rw [upd_same] at e
      cases e
    · rw [upd_ne hb] at e
      exact h.free b e
  · have hb : b ≠ a := by
      rintro rfl
      have hn : w.T b ≠ .no := by rw [ta]; exact fun z => nomatch z
      obtain ⟨l', z⟩ := h.own hn (by rw [ta]; exact fun _ z => nomatch z) e
      exact n l' z
    rw [upd_ne hb]
    exact h.base b u e n
/-- an object of this def's becomes a cell -/
def Wd.grow (w : Wd) (a : Addr) (n : Nat) : Wd := { w.set a (.cell n) with M := w.M ++ [a] }
theorem SimH.leGrow (h : SimH B w H S) (f : Free1 w H a) : Le w (w.grow a S.length) := by
  have le := h.leFree f (.cell S.length)
  refine ⟨rfl, rfl, le.fz, le.ce, fun l b e => ?_, rfl⟩
  show (w.M ++ [a])[l]? = some b
  rw [List.getElem?_append_left (List.getElem?_eq_some_iff.mp e).1]
  exact e
theorem SimH.grown (h : SimH B w H S) {c : Cell} (f : Free1 w H a) (hc : RC B w H a c) : SimH B (w.grow a S.length) H (S ++ [c]) := by
  have le := h.leGrow f
  have h0 := h.freeO f
  have nc := (h.freeF f).2
  have nf := (h.freeF f).1
  have same : ∀ {b}, b ≠ a → (w.grow a S.length).T b = w.T b := fun {b} hb => Wd.set_ne hb
  have self : (w.grow a S.length).T a = .cell S.length := Wd.set_same
  refine ⟨fun b u e => ?_, ?_, fun b l e => ?_, fun l b c' e1 e2 => ?_, fun b e => ?_, h.base, fun b u e n => ?_, h.t0, fun b u e => le.fz b u (h.t0f b u e), fun b l e => le.ce b l (h.t0c b l e)⟩
  · have hb : b ≠ a := by
      rintro rfl
      rw [self] at e
      cases e
    rw [same hb] at e
    exact h.fh b u e
  · show (w.M ++ [a]).length = (S ++ [c]).length
    rw [List.length_append, List.length_append, h.lenM]
    rfl
  · show (w.M ++ [a])[l]? = some b
    by_cases hb : b = a
    · subst hb
      rw [self] at e
      cases e
      rw [← h.lenM]
      simp
    · rw [same hb] at e
      have := h.cm b l e
      rw [List.getElem?_append_left (List.getElem?_eq_some_iff.mp this).1]
      exact this
  · have e1 : (w.M ++ [a])[l]? = some b := e1
    by_cases hl : l < S.length
    · rw [List.getElem?_append_left (by rw [h.lenM]; exact hl)] at e1
      rw [List.getElem?_append_left hl] at e2
      obtain ⟨t, q⟩ := h.cells l b c' e1 e2
      have hb : b ≠ a := by rintro rfl; exact nc l t
      rw [same hb]
      exact ⟨t, q.mono le rfl⟩
    · have e3 : l = S.length := by
        have := (List.getElem?_eq_some_iff.mp e2).1
        rw [List.length_append] at this
        simp at this
        omega
      subst e3
      rw [← h.lenM] at e1
      have e1 : a = b := by simpa using e1
      have e2 : c = c' := by simpa using e2
      subst e1 e2
      exact ⟨self, hc.mono le rfl⟩
  · have hb : b ≠ a := by
      rintro rfl
      obtain ⟨o, z⟩ := hc.some
      rw [e] at z
      cases z
    rw [same hb]
    exact h.free b e
  · have hb : b ≠ a := by
      rintro rfl
      rw [show w.H0 b = some u from e] at h0
      cases h0
    rw [same hb]
    exact h.tb b u e n

theorem RO.mono {tg : Tag} (h : Le w w') (e : ∀ b, w.T b = tg → H' b = H b ∧ w'.T b = tg) : ∀ {o : O} {v : V}, RO B w H tg o v → RO B w' H' tg o v
  | .u _, _, r => RU.mono h r
  | .ol _, _, ⟨a, q, t, r⟩ => ⟨a, q, (e a t).2, r.mono h (e a t).1⟩
  | .od _, _, ⟨a, q, t, r⟩ => ⟨a, q, (e a t).2, r.mono h (e a t).1⟩
variable {h : List O}
theorem SimR.mono (x : SimR B w σ H r h) (le : Le w w') (e : ∀ b, (w.T b).own → H' b = H b ∧ w'.T b = w.T b) : SimR B w' σ H' r h :=
  ⟨x.len, by rw [le.hv]; exact x.lenH, fun i o q => let ⟨v, q1, q2⟩ := x.slot i o q; ⟨v, q1, q2.mono le fun b t => let ⟨a1, a2⟩ := e b (by rw [t]; trivial); ⟨a1, a2.trans t⟩⟩,
    fun n o q => let ⟨v, q1, q2⟩ := x.held n o q; ⟨v, by rw [le.hv]; exact q1, q2.mono le fun b t => let ⟨a1, a2⟩ := e b (by rw [t]; trivial); ⟨a1, a2.trans t⟩⟩⟩
/-- .. where the place a alone is changed, and slot i gets a new reading -/
theorem SimR.put (x : SimR B w σ H r h) (le : Le w w') (e : ∀ b, b ≠ a → H' b = H b ∧ w'.T b = w.T b) {i : Nat} {v : V} {o : O} (hi : i < σ.length)
    (ht : (w.T a).own → w.T a = .slot i) (ho : RO B w' H' (.slot i) o v) : SimR B w' (σ.set i (some v)) H' (r.set i (some o)) h := by
  have ne : ∀ {b : Addr} {t : Tag}, w.T b = t → t.own → t ≠ .slot i → b ≠ a := fun {b t} q1 q2 q3 => by
    rintro rfl
    exact q3 (q1.symm.trans (ht (by rw [q1]; exact q2)))
  refine ⟨by simp [x.len], by rw [le.hv]; exact x.lenH, fun j o' q => ?_, fun n o' q => ?_⟩
  · by_cases hj : j = i
    · subst hj
      rw [List.getElem?_set_self (by rw [x.len]; exact hi)] at q
      cases q
      exact ⟨v, by rw [List.getElem?_set_self hi], ho⟩
    · rw [List.getElem?_set_ne (Ne.symm hj)] at q
      obtain ⟨v', q1, q2⟩ := x.slot j o' q
      refine ⟨v', by rw [List.getElem?_set_ne (Ne.symm hj)]; exact q1, q2.mono le fun b t => ?_⟩
      obtain ⟨e1, e2⟩ := e b (ne t trivial fun z => hj (by cases z; rfl))
      exact ⟨e1, e2.trans t⟩
  · obtain ⟨v', q1, q2⟩ := x.held n o' q
    refine ⟨v', by rw [le.hv]; exact q1, q2.mono le fun b t => ?_⟩
    obtain ⟨e1, e2⟩ := e b (ne t trivial fun z => nomatch z)
    exact ⟨e1, e2.trans t⟩
/-- .. where only the reading of slot i is changed -/
theorem SimR.re (x : SimR B w σ H r h) (le : Le w w') (e : ∀ b, b ≠ a → H' b = H b ∧ w'.T b = w.T b) {i : Nat} {v : V} {o : O} (hv : σ[i]? = some (some v))
    (ht : (w.T a).own → w.T a = .slot i) (ho : RO B w' H' (.slot i) o v) : SimR B w' σ H' (r.set i (some o)) h := by
  have hi := (List.getElem?_eq_some_iff.mp hv).1
  have := x.put le e hi ht ho
  have e2 : σ.set i (some v) = σ := by
    apply List.ext_getElem?
    intro j
    by_cases hj : j = i
    · subst hj; rw [List.getElem?_set_self hi, hv]
    · rw [List.getElem?_set_ne (Ne.symm hj)]
  rw [e2] at this
  exact this
end
end MP

namespace MP
open PySem PySem.Spec PyProof.Rows L2

abbrev EvO := Stt → Option (O × Stt)
abbrev EvU := Stt → Option (U × Stt)
abbrev EvT := Stt → Option (Bool × Stt)
abbrev EvL := Stt → Option (List U × Stt)
def tE (B : Bs) (f : EvO) : TE := fun σ H Q => ∃ w st o st', Sim B w σ H st ∧ f st = some (o, st') ∧
  ∀ w' v H', Le w w' → Sim B w' σ H' st' → RO B w' H' .tmp o v → Q v H'
def tU (B : Bs) (f : EvU) : TE := fun σ H Q => ∃ w st x st', Sim B w σ H st ∧ f st = some (x, st') ∧
  ∀ w' v H', Le w w' → Sim B w' σ H' st' → RU B w' x v → Q v H'
def tTs (B : Bs) (f : EvT) : TT := fun σ H Q => ∃ w st b st', Sim B w σ H st ∧ f st = some (b, st') ∧
  ∀ w' H', Le w w' → Sim B w' σ H' st' → Q b H'
abbrev RUs (B : Bs) (w : Wd) : List U → List V → Prop := Paired (RU B w)
def tL (B : Bs) (f : EvL) : TA := fun σ H Q => ∃ w st xs st', Sim B w σ H st ∧ f st = some (xs, st') ∧
  ∀ w' vs H', Le w w' → Sim B w' σ H' st' → RUs B w' xs vs → Q vs H'

section
variable {X : Cx} {e e1 e2 : Expr} {pos : Pos} {B : Bs}
theorem peW {t t' : TE} (h : PE X e t) (k : ∀ σ H Q, t' σ H Q → t σ H Q) : PE X e t' := ⟨fun pins s σ H Q I q => h.run pins s σ H Q I (k σ H Q q)⟩
theorem ptW {t t' : TT} (h : PT X e t) (k : ∀ σ H Q, t' σ H Q → t σ H Q) : PT X e t' := ⟨fun pins s σ H Q I q => h.run pins s σ H Q I (k σ H Q q)⟩
theorem pwW {t t' : TT} (h : PW X e t) (k : ∀ σ H Q, t' σ H Q → t σ H Q) : PW X e t' := ⟨fun wh pins s σ H Q I q => h.run wh pins s σ H Q I (k σ H Q q)⟩
theorem paW {es : List Expr} {t t' : TA} (h : PA X es t) (k : ∀ σ H Q, t' σ H Q → t σ H Q) : PA X es t' := ⟨fun p pins s σ H Q I q => h.run p pins s σ H Q I (k σ H Q q)⟩

theorem upd_self {H : Hp} {a : Addr} {o : HO} (h : H a = some o) : upd H a o = H := by
  funext b
  unfold upd
  split
  · rename_i q; rw [q, h]
  · rfl

theorem RUs.mono {w w' : Wd} (h : Le w w') : ∀ {xs : List U} {vs : List V}, RUs B w xs vs → RUs B w' xs vs
  | _, _, .nil => .nil
  | _, _, .cons r t => .cons (RU.mono h r) (RUs.mono h t)

/-! ### freezing, growing -/
section
variable {w : Wd} {σ : L2.St} {H : Hp} {st : Stt} {a : Addr}
theorem leFz (h : SimH B w H st.S) (f : Free1 w H a) (o : HO) : Le w (w.set a (.fz o)) := h.leFree f _
/-- a list of the result's is frozen -/
theorem Sim.freeze (s : Sim B w σ H st) {vs : List V} {xs : List PyData} (ht : w.T a = .tmp) (hc : H a = some (.lst vs)) (r : RpAll w.F xs vs) :
    Le w (w.set a (.fz (.lst vs))) ∧ Sim B (w.set a (.fz (.lst vs))) σ H st ∧ RU B (w.set a (.fz (.lst vs))) (.v (.list xs)) (.ref a) := by
  have f : Free1 w H a := .inr (.inr ht)
  have le := leFz s.h f (.lst vs)
  refine ⟨le, ⟨?_, s.r.mono le fun b e => ⟨rfl, ?_⟩⟩, .lst (Wd.F_iff.mpr Wd.set_same) (r.mono le.sub)⟩
  · have := s.h.put (o := .lst vs) (tg := .fz (.lst vs)) f trivial fun u e => by cases e; rfl
    rw [upd_self hc] at this
    exact this
  · have hb : b ≠ a := by rintro rfl; rw [ht] at e; cases e
    exact Wd.set_ne hb
theorem Sim.promote (s : Sim B w σ H st) {c : Cell} (ht : w.T a = .tmp) (hc : RC B w H a c) :
    Le w (w.grow a st.S.length) ∧ Sim B (w.grow a st.S.length) σ H { st with S := st.S ++ [c] } ∧ RU B (w.grow a st.S.length) (.ref st.S.length) (.ref a) := by
  have f : Free1 w H a := .inr (.inr ht)
  have le := s.h.leGrow f
  refine ⟨le, ⟨s.h.grown f hc, s.r.mono le fun b e => ⟨rfl, ?_⟩⟩, a, ?_, rfl⟩
  · have hb : b ≠ a := by rintro rfl; rw [ht] at e; cases e
    exact Wd.set_ne hb
  · show (w.M ++ [a])[st.S.length]? = some a
    rw [← s.h.lenM]
    simp
end

/-- a result made a plain value: a list is frozen, a dict becomes a cell -/
def fz (f : EvO) : EvU := fun st => match f st with
  | some (.u x, st') => some (x, st')
  | some (.ol xs, st') => some (.v (.list xs), st')
  | some (.od kvs, st') => some (.ref st'.S.length, { st' with S := st'.S ++ [.cd kvs] })
  | none => none
/-- .. a list too becomes a cell -/
def pm (f : EvO) : EvU := fun st => match f st with
  | some (.u x, st') => some (x, st')
  | some (.ol xs, st') => some (.ref st'.S.length, { st' with S := st'.S ++ [.cl xs] })
  | some (.od kvs, st') => some (.ref st'.S.length, { st' with S := st'.S ++ [.cd kvs] })
  | none => none
def up (f : EvU) : EvO := fun st => (f st).map fun p => (.u p.1, p.2)

theorem e_fz {f : EvO} (h : PE X e (tE B f)) : PE X e (tU B (fz f)) := peW h fun σ H Q ⟨w, st, x, st', s, hf, q⟩ => by
  unfold fz at hf
  split at hf
  · rename_i x' st1 e1
    cases hf
    exact ⟨w, st, _, _, s, e1, fun w' v H' l s' r => q w' v H' l s' r⟩
  · rename_i xs st1 e1
    cases hf
    refine ⟨w, st, _, _, s, e1, fun w' v H' l s' r => ?_⟩
    obtain ⟨a, rfl, t, vs, hc, rr⟩ := r
    obtain ⟨l2, s2, r2⟩ := s'.freeze t hc rr
    exact q _ _ _ (l.trans l2) s2 r2
  · rename_i kvs st1 e1
    cases hf
    refine ⟨w, st, _, _, s, e1, fun w' v H' l s' r => ?_⟩
    obtain ⟨a, rfl, t, rr⟩ := r
    obtain ⟨l2, s2, r2⟩ := s'.promote t rr
    exact q _ _ _ (l.trans l2) s2 r2
  · cases hf
theorem e_pm {f : EvO} (h : PE X e (tE B f)) : PE X e (tU B (pm f)) := peW h fun σ H Q ⟨w, st, x, st', s, hf, q⟩ => by
  unfold pm at hf
  split at hf
  · rename_i x' st1 e1
    cases hf
    exact ⟨w, st, _, _, s, e1, fun w' v H' l s' r => q w' v H' l s' r⟩
  · rename_i xs st1 e1
    cases hf
    refine ⟨w, st, _, _, s, e1, fun w' v H' l s' r => ?_⟩
    obtain ⟨a, rfl, t, rr⟩ := r
    obtain ⟨l2, s2, r2⟩ := s'.promote t rr
    exact q _ _ _ (l.trans l2) s2 r2
  · rename_i kvs st1 e1
    cases hf
    refine ⟨w, st, _, _, s, e1, fun w' v H' l s' r => ?_⟩
    obtain ⟨a, rfl, t, rr⟩ := r
    obtain ⟨l2, s2, r2⟩ := s'.promote t rr
    exact q _ _ _ (l.trans l2) s2 r2
  · cases hf
theorem e_up {f : EvU} (h : PE X e (tU B f)) : PE X e (tE B (up f)) := peW h fun σ H Q ⟨w, st, x, st', s, hf, q⟩ => by
  unfold up at hf
  cases e1 : f st with
  | none => rw [e1] at hf; cases hf
  | some p =>
    rw [e1] at hf
    cases hf
    exact ⟨w, st, p.1, p.2, s, e1, fun w' v H' l s' r => q w' v H' l s' r⟩

/-! ### constants and names -/
def kst (d : PyData) : EvU := fun st => some (.v d, st)
theorem e_kst {d : PyData} {v : V} (h : PE X e (tC v)) (r : ∀ F, Rp F d v) : PE X e (tU B (kst d)) := peW h fun σ H Q ⟨w, st, x, st', s, hf, q⟩ => by
  cases hf
  exact q w v H (Le.rfl' w) s (r _)
theorem e_int {i : Int} {j} : PE X (.Constant (.int i) j pos) (tU B (kst (.int i))) := e_kst pe_int fun _ => .int i
theorem e_bool {b : Bool} {j} : PE X (.Constant (.bool b) j pos) (tU B (kst (.bool b))) := e_kst pe_bl fun _ => .bl b
theorem e_none {j} : PE X (.Constant .none j pos) (tU B (kst .none)) := e_kst pe_non fun _ => .non
theorem e_str {x : Str} {j} : PE X (.Constant (.str x) j pos) (tU B (kst (.str x))) := e_kst pe_str fun _ => .str x

/-- a name read: a list of its own is frozen by that, a dict becomes a cell -/
def nm (i : Nat) : EvU := fun st => match st.r[i]? with
  | some (some (.u x)) => some (x, st)
  | some (some (.ol xs)) => some (.v (.list xs), { st with r := st.r.set i (some (.u (.v (.list xs)))) })
  | some (some (.od kvs)) => some (.ref st.S.length, { st with r := st.r.set i (some (.u (.ref st.S.length))), S := st.S ++ [.cd kvs] })
  | _ => none
/-- .. a list too becomes a cell -/
def nmP (i : Nat) : EvU := fun st => match st.r[i]? with
  | some (some (.u x)) => some (x, st)
  | some (some (.ol xs)) => some (.ref st.S.length, { st with r := st.r.set i (some (.u (.ref st.S.length))), S := st.S ++ [.cl xs] })
  | some (some (.od kvs)) => some (.ref st.S.length, { st with r := st.r.set i (some (.u (.ref st.S.length))), S := st.S ++ [.cd kvs] })
  | _ => none
section
variable {w : Wd} {σ : L2.St} {H : Hp} {st : Stt} {a : Addr} {i : Nat}
theorem Sim.freezeAt (s : Sim B w σ H st) {vs : List V} {xs : List PyData} (hv : σ[i]? = some (some (.ref a))) (ht : w.T a = .slot i) (hc : H a = some (.lst vs)) (r : RpAll w.F xs vs) :
    Le w (w.set a (.fz (.lst vs))) ∧ Sim B (w.set a (.fz (.lst vs))) σ H { st with r := st.r.set i (some (.u (.v (.list xs)))) } ∧ RU B (w.set a (.fz (.lst vs))) (.v (.list xs)) (.ref a) := by
  have f : Free1 w H a := .inr (.inl (by rw [ht]; trivial))
  have le := leFz s.h f (.lst vs)
  have r2 : RU B (w.set a (.fz (.lst vs))) (.v (.list xs)) (.ref a) := .lst (Wd.F_iff.mpr Wd.set_same) (r.mono le.sub)
  refine ⟨le, ⟨?_, s.r.re (a := a) le (fun b hb => ⟨rfl, Wd.set_ne hb⟩) hv (fun _ => ht) r2⟩, r2⟩
  · have := s.h.put (o := .lst vs) (tg := .fz (.lst vs)) f trivial fun u e => by cases e; rfl
    rw [upd_self hc] at this
    exact this
theorem Sim.promoteAt (s : Sim B w σ H st) {c : Cell} (hv : σ[i]? = some (some (.ref a))) (ht : w.T a = .slot i) (hc : RC B w H a c) :
    Le w (w.grow a st.S.length) ∧ Sim B (w.grow a st.S.length) σ H { st with r := st.r.set i (some (.u (.ref st.S.length))), S := st.S ++ [c] } ∧ RU B (w.grow a st.S.length) (.ref st.S.length) (.ref a) := by
  have f : Free1 w H a := .inr (.inl (by rw [ht]; trivial))
  have le := s.h.leGrow f
  have r2 : RU B (w.grow a st.S.length) (.ref st.S.length) (.ref a) := ⟨a, (by
    show (w.M ++ [a])[st.S.length]? = some a
    rw [← s.h.lenM]
    simp), rfl⟩
  refine ⟨le, ⟨s.h.grown f hc, s.r.re (a := a) le (fun b hb => ⟨rfl, Wd.set_ne hb⟩) hv (fun _ => ht) r2⟩, r2⟩
end
theorem e_nm {i : Nat} (h : PE X e (tVar i)) : PE X e (tU B (nm i)) := peW h fun σ H Q ⟨w, st, x, st', s, hf, q⟩ => by
  unfold nm at hf
  split at hf
  · rename_i x' e1
    cases hf
    obtain ⟨v, h1, h2⟩ := s.r.slot i _ e1
    exact ⟨v, h1, q w v H (Le.rfl' w) s h2⟩
  · rename_i xs e1
    cases hf
    obtain ⟨v, h1, a, rfl, t, vs, hc, r⟩ := s.r.slot i _ e1
    obtain ⟨l, s2, r2⟩ := s.freezeAt h1 t hc r
    exact ⟨_, h1, q _ _ H l s2 r2⟩
  · rename_i kvs e1
    cases hf
    obtain ⟨v, h1, a, rfl, t, hc⟩ := s.r.slot i _ e1
    obtain ⟨l, s2, r2⟩ := s.promoteAt h1 t hc
    exact ⟨_, h1, q _ _ H l s2 r2⟩
  · cases hf
theorem e_nmP {i : Nat} (h : PE X e (tVar i)) : PE X e (tU B (nmP i)) := peW h fun σ H Q ⟨w, st, x, st', s, hf, q⟩ => by
  unfold nmP at hf
  split at hf
  · rename_i x' e1
    cases hf
    obtain ⟨v, h1, h2⟩ := s.r.slot i _ e1
    exact ⟨v, h1, q w v H (Le.rfl' w) s h2⟩
  · rename_i xs e1
    cases hf
    obtain ⟨v, h1, a, rfl, t, hc⟩ := s.r.slot i _ e1
    obtain ⟨l, s2, r2⟩ := s.promoteAt h1 t hc
    exact ⟨_, h1, q _ _ H l s2 r2⟩
  · rename_i kvs e1
    cases hf
    obtain ⟨v, h1, a, rfl, t, hc⟩ := s.r.slot i _ e1
    obtain ⟨l, s2, r2⟩ := s.promoteAt h1 t hc
    exact ⟨_, h1, q _ _ H l s2 r2⟩
  · cases hf

/-! ### two operands -/
def bin (g : U → U → Option U) (fa fb : EvU) : EvU := fun st => (fa st).bind fun p => (fb p.2).bind fun q => (g p.1 q.1).map fun z => (z, q.2)
def un (g : U → Option U) (fa : EvU) : EvU := fun st => (fa st).bind fun p => (g p.1).map fun z => (z, p.2)
/-- g serves the rule r -/
def GOp (B : Bs) (r : R2) (g : U → U → Option U) : Prop := ∀ (x y z : U), g x y = some z → ∀ (w : Wd) (σ : L2.St) (H : Hp) (st : Stt) (vx vy : V) (Q : VK), Sim B w σ H st → RU B w x vx → RU B w y vy →
  (∀ w' v H', Le w w' → Sim B w' σ H' st → RU B w' z v → Q v H') → r vx vy H Q
def GUn (B : Bs) (r : V → Hp → VK → Prop) (g : U → Option U) : Prop := ∀ (x z : U), g x = some z → ∀ (w : Wd) (σ : L2.St) (H : Hp) (st : Stt) (vx : V) (Q : VK), Sim B w σ H st → RU B w x vx →
  (∀ w' v H', Le w w' → Sim B w' σ H' st → RU B w' z v → Q v H') → r vx H Q
theorem two {fa fb : EvU} {r : R2} {g : U → U → Option U} (hg : GOp B r g) {σ : L2.St} {H : Hp} {Q : VK} (h : tU B (bin g fa fb) σ H Q) : tOp r (tU B fa) (tU B fb) σ H Q := by
  obtain ⟨w, st, z, st', s, hf, q⟩ := h
  unfold bin at hf
  cases ea : fa st with
  | none => rw [ea] at hf; cases hf
  | some p =>
    rw [ea] at hf
    cases eb : fb p.2 with
    | none => rw [Option.bind_some, eb] at hf; cases hf
    | some p2 =>
      rw [Option.bind_some, eb, Option.bind_some] at hf
      cases ez : g p.1 p2.1 with
      | none => rw [ez] at hf; cases hf
      | some z' =>
        rw [ez] at hf
        cases hf
        refine ⟨w, st, p.1, p.2, s, ea, fun w1 v1 H1 l1 s1 r1 => ⟨w1, p.2, p2.1, p2.2, s1, eb, fun w2 v2 H2 l2 s2 r2 => ?_⟩⟩
        exact hg _ _ _ ez w2 σ H2 p2.2 v1 v2 Q s2 (r1.mono l2) r2 fun w' v H' l s' r' => q w' v H' (l1.trans (l2.trans l)) s' r'
theorem one {fa : EvU} {r : V → Hp → VK → Prop} {g : U → Option U} (hg : GUn B r g) {σ : L2.St} {H : Hp} {Q : VK} (h : tU B (un g fa) σ H Q) : tUn r (tU B fa) σ H Q := by
  obtain ⟨w, st, z, st', s, hf, q⟩ := h
  unfold un at hf
  cases ea : fa st with
  | none => rw [ea] at hf; cases hf
  | some p =>
    rw [ea, Option.bind_some] at hf
    cases ez : g p.1 with
    | none => rw [ez] at hf; cases hf
    | some z' =>
      rw [ez] at hf
      cases hf
      exact ⟨w, st, p.1, p.2, s, ea, fun w1 v1 H1 l1 s1 r1 => hg _ _ ez w1 σ H1 p.2 v1 Q s1 r1 fun w' v H' l s' r' => q w' v H' (l1.trans l) s' r'⟩
theorem e_bin {op : Operator} {r : R2} {g : U → U → Option U} {fa fb : EvU} (ho : OpR X (binaryOp op) r) (hg : GOp B r g) (ha : PE X e1 (tU B fa)) (hb : PE X e2 (tU B fb)) : PE X (.BinOp e1 op e2 pos) (tU B (bin g fa fb)) :=
  peW (pe_op ho ha hb) fun _ _ _ h => two hg h
theorem e_cmp {op : CmpOp} {r : R2} {g : U → U → Option U} {fa fb : EvU} (ho : OpR X (compareOp op) r) (hg : GOp B r g) (ha : PE X e1 (tU B fa)) (hb : PE X e2 (tU B fb)) (hm : behindInMarks op e2 = false) : PE X (.Compare e1 [op] [e2] pos) (tU B (bin g fa fb)) :=
  peW (pe_cmpR ho ha hb hm) fun _ _ _ h => two hg h
theorem e_un {op : UnaryOp} {r : V → Hp → VK → Prop} {g : U → Option U} {fa : EvU} (ho : UnR X (unaryOp op) r) (hg : GUn B r g) (ha : PE X e1 (tU B fa)) : PE X (.UnaryOp op e1 pos) (tU B (un g fa)) :=
  peW (pe_un ho ha) fun _ _ _ h => one hg h

/-! ### what the operators reckon -/
def gI (C : Int → Int → Bool) (k : Int → Int → PyData) : U → U → Option U
  | .v (.int i), .v (.int j) => if C i j then some (.v (k i j)) else none
  | _, _ => none
def cAll : Int → Int → Bool := fun _ _ => true
def cMul : Int → Int → Bool := fun i j => decide (i.natAbs < 18446744073709551616) || decide (j.natAbs < 18446744073709551616)
def cDiv : Int → Int → Bool := fun _ j => decide (j ≠ 0) && decide (j.natAbs < 1073741824)
def cMod : Int → Int → Bool := fun _ j => decide (j ≠ 0)
def cPow : Int → Int → Bool := fun i j => decide (0 ≤ j) && (decide (j.natAbs ≤ 1000000) && decide (i.natAbs < 18446744073709551616))
theorem cPow_ok {i j : Int} (h : cPow i j = true) : CPow i j := by
  simp only [cPow, Bool.and_eq_true, decide_eq_true_eq] at h
  unfold CPow
  omega
theorem cMul_ok {i j : Int} (h : cMul i j = true) : CMul i j := by
  simp only [cMul, Bool.or_eq_true, decide_eq_true_eq] at h
  unfold CMul
  omega
def cShr : Int → Int → Bool := fun _ j => decide (0 ≤ j)
theorem g_int {C : Int → Int → Prop} {c : Int → Int → Bool} {k : Int → Int → V} {k' : Int → Int → PyData} (hc : ∀ i j, c i j = true → C i j) (hk : ∀ F i j, Rp F (k' i j) (k i j)) : GOp B (rI C k) (gI c k') := by
  intro x y z e w σ H st vx vy Q s rx ry q
  unfold gI at e
  split at e
  · split at e
    · rename_i hcc
      cases e
      cases rx
      cases ry
      exact ⟨_, _, rfl, rfl, hc _ _ hcc, q w _ H (Le.rfl' w) s (hk _ _ _)⟩
    · cases e
  · cases e
theorem g_int0 {k : Int → Int → V} {k' : Int → Int → PyData} (hk : ∀ F i j, Rp F (k' i j) (k i j)) : GOp B (rI0 k) (gI cAll k') := by
  intro x y z e w σ H st vx vy Q s rx ry q
  unfold gI at e
  split at e
  · simp only [cAll, if_true] at e
    cases e
    cases rx
    cases ry
    exact ⟨_, _, rfl, rfl, q w _ H (Le.rfl' w) s (hk _ _ _)⟩
  · cases e
def iAdd : U → U → Option U := gI cAll fun i j => .int (i + j)
def iSub : U → U → Option U := gI cAll fun i j => .int (i - j)
def iMul : U → U → Option U := gI cMul fun i j => .int (i * j)
def iDiv : U → U → Option U := gI cDiv fun i j => .int (i.fdiv j)
def iMod : U → U → Option U := gI cMod fun i j => .int (i.fmod j)
def iPow : U → U → Option U := gI cPow fun i j => .int (i ^ j.toNat)
def iShl : U → U → Option U := gI cPow fun i j => .int (i * 2 ^ j.toNat)
def iShr : U → U → Option U := gI cShr fun i j => .int (i / 2 ^ j.toNat)
def iAnd : U → U → Option U := gI cAll fun i j => .int (Builtin.bitAnd i j)
def iOr : U → U → Option U := gI cAll fun i j => .int (Builtin.bitOr i j)
def iXor : U → U → Option U := gI cAll fun i j => .int (Builtin.bitXor i j)
def iLt : U → U → Option U := gI cAll fun i j => .bool (decide (i < j))
def iLe : U → U → Option U := gI cAll fun i j => .bool (decide (i ≤ j))
def iGt : U → U → Option U := gI cAll fun i j => .bool (decide (j < i))
def iGe : U → U → Option U := gI cAll fun i j => .bool (decide (j ≤ i))
section
variable {fa fb : EvU} (ha : PE X e1 (tU B fa)) (hb : PE X e2 (tU B fb))
include ha hb
theorem e_sub : PE X (.BinOp e1 .Sub e2 pos) (tU B (bin iSub fa fb)) := e_bin op_sub (g_int0 fun _ _ _ => .int _) ha hb
theorem e_div : PE X (.BinOp e1 .FloorDiv e2 pos) (tU B (bin iDiv fa fb)) := e_bin op_fdivN (g_int (fun i j h => by simpa [cDiv, CDivN] using h) fun _ _ _ => .int _) ha hb
theorem e_mod : PE X (.BinOp e1 .Mod e2 pos) (tU B (bin iMod fa fb)) := e_bin op_modN (g_int (fun i j h => by simpa [cMod] using h) fun _ _ _ => .int _) ha hb
theorem e_pow : PE X (.BinOp e1 .Pow e2 pos) (tU B (bin iPow fa fb)) := e_bin op_pow (g_int (fun i j h => cPow_ok h) fun _ _ _ => .int _) ha hb
theorem e_shl : PE X (.BinOp e1 .LShift e2 pos) (tU B (bin iShl fa fb)) := e_bin op_shl (g_int (fun i j h => cPow_ok h) fun _ _ _ => .int _) ha hb
theorem e_shr : PE X (.BinOp e1 .RShift e2 pos) (tU B (bin iShr fa fb)) := e_bin op_shr (g_int (fun i j h => by simpa [cShr] using h) fun _ _ _ => .int _) ha hb
theorem e_and : PE X (.BinOp e1 .BitAnd e2 pos) (tU B (bin iAnd fa fb)) := e_bin op_and (g_int0 fun _ _ _ => .int _) ha hb
theorem e_or : PE X (.BinOp e1 .BitOr e2 pos) (tU B (bin iOr fa fb)) := e_bin op_or (g_int0 fun _ _ _ => .int _) ha hb
theorem e_xor : PE X (.BinOp e1 .BitXor e2 pos) (tU B (bin iXor fa fb)) := e_bin op_xor (g_int0 fun _ _ _ => .int _) ha hb
theorem e_lt : PE X (.Compare e1 [.Lt] [e2] pos) (tU B (bin iLt fa fb)) := e_cmp op_lt (g_int0 fun _ _ _ => .bl _) ha hb (nomark _)
theorem e_le : PE X (.Compare e1 [.LtE] [e2] pos) (tU B (bin iLe fa fb)) := e_cmp op_le (g_int0 fun _ _ _ => .bl _) ha hb (nomark _)
theorem e_gt : PE X (.Compare e1 [.Gt] [e2] pos) (tU B (bin iGt fa fb)) := e_cmp op_gt (g_int0 fun _ _ _ => .bl _) ha hb (nomark _)
theorem e_ge : PE X (.Compare e1 [.GtE] [e2] pos) (tU B (bin iGe fa fb)) := e_cmp op_ge (g_int0 fun _ _ _ => .bl _) ha hb (nomark _)
end
end
end MP

namespace MP
open PySem PySem.Spec PyProof.Rows L2

section
variable {X : Cx} {e e1 e2 e3 : Expr} {pos : Pos} {B : Bs}
section
variable {w : Wd} {σ : L2.St} {H : Hp} {st : Stt} {p : Addr}
theorem Sim.putNew (s : Sim B w σ H st) (hp : H p = none) {tg : Tag} {o : HO} (ht : tg.plain) (hs : ∀ i, tg ≠ .slot i) (hf : ∀ u, tg = .fz u → u = o) : Le w (w.set p tg) ∧ Sim B (w.set p tg) σ (upd H p o) st := by
  have f : Free1 w H p := .inl hp
  have le := s.h.leFree f tg
  refine ⟨le, ⟨s.h.put f ht hf, s.r.mono le fun b e => ?_⟩⟩
  have hb : b ≠ p := by
    rintro rfl
    rw [s.h.free b hp] at e
    exact e
  exact ⟨upd_ne hb, Wd.set_ne hb⟩
theorem Sim.newTup (s : Sim B w σ H st) (hp : H p = none) {ob : Obj} (hd : ob.dict = none) {ds : List PyData} {vs : List V} (r : RpAll w.F ds vs) :
    ∃ w', Le w w' ∧ Sim B w' σ (upd H p (.frz ob (.tup vs))) st ∧ RU B w' (.v (.tuple ds)) (.ref p) := by
  obtain ⟨le, s2⟩ := s.putNew hp (tg := .fz (.frz ob (.tup vs))) (o := .frz ob (.tup vs)) trivial (fun _ z => nomatch z) fun u e => by cases e; rfl
  exact ⟨_, le, s2, .tup (Wd.F_iff.mpr Wd.set_same) hd (r.mono le.sub)⟩
theorem Sim.newFz (s : Sim B w σ H st) (hp : H p = none) {ds : List PyData} {vs : List V} (r : RpAll w.F ds vs) :
    ∃ w', Le w w' ∧ Sim B w' σ (upd H p (.lst vs)) st ∧ RU B w' (.v (.list ds)) (.ref p) := by
  obtain ⟨le, s2⟩ := s.putNew hp (tg := .fz (.lst vs)) (o := .lst vs) trivial (fun _ z => nomatch z) fun u e => by cases e; rfl
  exact ⟨_, le, s2, .lst (Wd.F_iff.mpr Wd.set_same) (r.mono le.sub)⟩
theorem Sim.newLst (s : Sim B w σ H st) (hp : H p = none) {ds : List PyData} {vs : List V} (r : RpAll w.F ds vs) :
    ∃ w', Le w w' ∧ Sim B w' σ (upd H p (.lst vs)) st ∧ RO B w' (upd H p (.lst vs)) .tmp (.ol ds) (.ref p) := by
  obtain ⟨le, s2⟩ := s.putNew hp (tg := .tmp) (o := .lst vs) trivial (fun _ z => nomatch z) fun u e => nomatch e
  exact ⟨_, le, s2, p, rfl, Wd.set_same, vs, upd_same, r.mono le.sub⟩
end

/-! ### tuples, known to their object -/
def tObj (us : List Value) : Obj := { cls := .type "tuple", data := .seq us.toArray }
/-- what is wanted of a new tuple -/
def NewT (H : Hp) (Q : VK) (xs : List V) : Prop := ∀ p (ob : Obj), H p = none → ob.dict = none → Q (.ref p) (upd H p (.frz ob (.tup xs)))
theorem laidT {pins : List (Addr × Obj)} {σ : L2.St} {H : Hp} {s : Shared} {xs : List V} {us : List Value} {Q : VK} (I : Inv X pins σ H s) (r : Vals xs us) (hz : xs.length ≤ sizeLine) (q : NewT H Q xs) :
    EP X pins σ Q (.ref s.heap.objs.size) { s with heap := s.heap.push (tObj us) } := by
  have hn : H s.heap.objs.size = none := I.hok.fresh (Nat.le_refl _)
  refine ⟨.ref s.heap.objs.size, _, I.laid (t' := s.toks) (o := .frz (tObj us) (.tup xs)) (fun b u e => Heap.get?_push_of_some _ e) (Nat.le_refl _) ?_, rfl, q _ (tObj us) hn rfl⟩
  exact ⟨Heap.get?_push_size _ rfl, hz, us, r, IsTup.new _ _⟩
def tTupF (t : TA) : TE := fun σ H Q => t σ H fun xs H1 => xs.length ≤ sizeLine ∧ NewT H1 Q xs
theorem pe_tupF {es : List Expr} {t : TA} {k} (h : PA X es t) : PE X (.Tuple es k pos) (tTupF t) :=
  ⟨fun pins s σ H Q I hq => wpAny_Tuple_spliced (thn (h.run pos pins s σ H _ I hq) fun us s1 hh => by
    obtain ⟨xs, H1, I1, r, z, q⟩ := hh
    exact ⟨by rw [← r.length]; exact z, laidT I1 r z q⟩)⟩
def rCatF (K : PySem.W.Frag) : R2 := fun x y H Q => ∃ a b xs ys, x = .ref a ∧ y = .ref b ∧ SqT K H a xs ∧ SqT K H b ys ∧ xs.length + ys.length ≤ sizeLine ∧
  (xs = [] → Q y H) ∧ (xs ≠ [] → ys = [] → Q x H) ∧ (xs ≠ [] → ys ≠ [] → NewT H Q (xs ++ ys))
theorem op_catF : OpR X (binaryOp .Add) (rCatF X.K) := by
  rintro pins s σ H x y v u Q I rx ry ⟨a, b, xs, ys, rfl, rfl, ha, hb, hz, q0, q1, q2⟩
  cases rx
  cases ry
  obtain ⟨us, ru, pu, _⟩ := I.tuple ha
  obtain ⟨vs, rv, pv, _⟩ := I.tuple hb
  by_cases hx : xs = []
  · subst hx
    cases ru
    exact cat_tup0 pu pv (show EP X pins σ Q _ s from ⟨.ref b, H, I, rfl, q0 rfl⟩)
  · have hu : us ≠ [] := fun z => hx (ru.nil_iff.mp z)
    refine HT.cat_tup pu pv hu (fun z => ⟨.ref a, H, I, rfl, q1 hx (rv.nil_iff.mp z)⟩) (fun z => ?_) (by rw [← ru.length, ← rv.length]; exact hz)
    exact laidT I (ru.append rv) (by rw [List.length_append]; exact hz) (q2 hx fun z' => z (rv.nil_iff.mpr z'))
def rSlF (K : PySem.W.Frag) : V → Option Int → Option Int → Hp → VK → Prop := fun x lo hi H Q => ∃ a xs, x = .ref a ∧ SqT K H a xs ∧
  (HT.sIx xs.length 0 lo = 0 ∧ HT.sIx xs.length xs.length hi = xs.length → Q x H) ∧ (¬ (HT.sIx xs.length 0 lo = 0 ∧ HT.sIx xs.length xs.length hi = xs.length) → NewT H Q (cutV xs lo hi))
theorem sl_tupF : SlR X (rSlF X.K) := by
  rintro pins s σ H x v vl vu lo hi sl Q I rx hs pl pu ⟨a, xs, rfl, hx, q1, q2⟩
  cases rx
  obtain ⟨us, r, ht, hz⟩ := I.tuple hx
  have hl : us.toArray.size = xs.length := by rw [List.size_toArray, r.length]
  refine ⟨"tuple", _, slot_tuple_getitem.lookup, ht.typeIs, ?_⟩
  by_cases hw : HT.sIx xs.length 0 lo = 0 ∧ HT.sIx xs.length xs.length hi = xs.length
  · exact getItem_tuple_whole ht hs pl pu (by rw [hl]; exact hw) ⟨.ref a, H, I, rfl, q1 hw⟩
  · refine HT.getItem_tuple_cut ht hs pl pu (by rw [hl]; exact hw) ?_ (by rw [hl]; exact hz)
    rw [hl]
    exact laidT I ((r.drop _).take _) (Nat.le_trans (cutV_length xs lo hi) hz) (q2 hw)
theorem call_tupF : CallR X (.type "tuple") (fun xs H Q => ∃ p ys, xs = [.ref p] ∧ ((SqL X.K H p ys ∧ NewT H Q ys) ∨ (SqT X.K H p ys ∧ Q (.ref p) H))) := by
  rintro pins s σ H xs us Q I r ⟨p, ys, rfl, h⟩
  obtain ⟨u, rfl, rx⟩ := vals1 r
  cases rx
  rcases h with ⟨hq, q⟩ | ⟨hq, q⟩
  · obtain ⟨ws, r', pl, hz⟩ := I.list hq
    have hw := r'.length
    refine call_tuple_list pl.isList (fun h' kp => ?_) (by simp only [List.size_toArray] <;> omega)
    have I1 : Inv X pins σ H { s with heap := h' } := I.kept (t' := s.toks) kp
    exact laidT I1 r' hz q
  · obtain ⟨ws, r', pl, hz⟩ := I.tuple hq
    exact call_tuple_same pl ⟨.ref p, H, I, rfl, q⟩

theorem line_eq : (sizeLine : Nat) = 16777216 := sizeLine_eq
/-- a length that a list, a tuple, a text may have -/
def lineOk (n : Nat) : Bool := decide (n ≤ 16777216)
theorem lineOk_le {n : Nat} (h : lineOk n = true) : n ≤ sizeLine := by
  rw [line_eq]
  exact of_decide_eq_true h

/-! ### + -/
def gAdd : U → U → Option U
  | .v (.int i), .v (.int j) => some (.v (.int (i + j)))
  | .v (.str a), .v (.str b) => if lineOk (a.length + b.length) then some (.v (.str (a ++ b))) else none
  | .v (.tuple a), .v (.tuple b) => if lineOk (a.length + b.length) then some (.v (.tuple (a ++ b))) else none
  | .v (.list a), .v (.list b) => if lineOk (a.length + b.length) then some (.v (.list (a ++ b))) else none
  | _, _ => none
theorem RpAll.nilV {F : Hp} {vs : List V} : ∀ {ds : List PyData}, RpAll F ds vs → vs = [] → ds = []
  | _, .nil, _ => rfl
  | _, .cons _ _, e => nomatch e
theorem g_add {X : Cx} : GOp (bsX X) (fun x y H Q => rI0 (fun i j => .int (i + j)) x y H Q ∨ (fun (x y : V) (H : Hp) (Q : VK) => ∃ i j, x = .str i ∧ y = .str j ∧ i.length + j.length ≤ sizeLine ∧ Q (.str (i ++ j)) H) x y H Q ∨
    rCatF X.K x y H Q ∨ rCat x y H Q) gAdd := by
  intro x y z e w σ H st vx vy Q s rx ry q
  unfold gAdd at e
  split at e
  · cases e
    cases rx
    cases ry
    exact .inl ⟨_, _, rfl, rfl, q w _ H (Le.rfl' w) s (.int _)⟩
  · split at e
    · rename_i hl
      cases e
      cases rx
      cases ry
      exact .inr (.inl ⟨_, _, rfl, rfl, lineOk_le hl, q w _ H (Le.rfl' w) s (.str _)⟩)
    · cases e
  · split at e
    · rename_i hl
      cases e
      cases rx with
      | tup ex dx ra =>
        cases ry with
        | tup ey dy rb =>
          have hl' : lineOk _ = true := hl
          rw [ra.length, rb.length] at hl'
          refine .inr (.inr (.inl ⟨_, _, _, _, rfl, rfl, .inl (.inr ⟨_, s.h.sub _ _ ex⟩), .inl (.inr ⟨_, s.h.sub _ _ ey⟩), lineOk_le hl', fun h0 => ?_, fun _ h0 => ?_, fun _ _ p ob hp hd => ?_⟩))
          · have := ra.nilV h0
            subst this
            exact q w _ H (Le.rfl' w) s (.tup ey dy rb)
          · have := rb.nilV h0
            subst this
            rw [List.append_nil] at q
            exact q w _ H (Le.rfl' w) s (.tup ex dx ra)
          · obtain ⟨w', l, s2, r2⟩ := s.newTup hp hd (ra.app rb)
            exact q w' _ _ l s2 r2
    · cases e
  · split at e
    · rename_i hl
      cases e
      cases rx with
      | lst ex ra =>
        cases ry with
        | lst ey rb =>
          have hl' : lineOk _ = true := hl
          rw [ra.length, rb.length] at hl'
          refine .inr (.inr (.inr ⟨_, _, _, _, rfl, rfl, s.h.sub _ _ ex, s.h.sub _ _ ey, lineOk_le hl', fun p hp => ?_⟩))
          obtain ⟨w', l, s2, r2⟩ := s.newFz hp (ra.app rb)
          exact q w' _ _ l s2 r2
    · cases e
  · cases e
theorem e_add {fa fb : EvU} (ha : PE X e1 (tU (bsX X) fa)) (hb : PE X e2 (tU (bsX X) fb)) : PE X (.BinOp e1 .Add e2 pos) (tU (bsX X) (bin gAdd fa fb)) :=
  e_bin (op_add.or (op_add_str.or (op_catF.or op_cat))) g_add ha hb
/-! ### * -/
def rRepF (K : PySem.W.Frag) : R2 := fun x y H Q => ∃ l k xs, x = .ref l ∧ y = .int k ∧ SqT K H l xs ∧ xs ≠ [] ∧ 1 ≤ k ∧ k ≤ 1000 ∧ xs.length ≤ 1000 ∧ (k = 1 → Q x H) ∧ (k ≠ 1 → NewT H Q (List.replicate k.toNat xs).flatten)
theorem tuple_mul_one (l : Addr) (items : Array Value) (n : Nat) (dd : Option Addr) (sl : Array (Option Value)) (u : Tok) :
    Meets (Builtin.«tuple.__mul__» ⟨[.ref l, .int 1 u], []⟩) (fun A R s => s.heap.get? l = some { cls := .type "tuple", dict := dd, data := .seq items n, slots := sl } ∧ R (.ok (.ret (.ref l))) s) :=
  .of_wp fun prog w A R s h => by
    obtain ⟨hp, g, d, tk, os⟩ := s
    obtain ⟨hl, h⟩ := h
    have f1 := AutoSeq1.idx_int
    wp_walk using wpAny_loadPart' hl
    exact ⟨_, rfl, h⟩
theorem op_repF : OpR X (binaryOp .Mult) (rRepF X.K) := by
  rintro pins s σ H x y v u Q I rx ry ⟨l, k, xs, rfl, rfl, hT, hne, h1, h2, hz, q1, q2⟩
  cases rx
  obtain ⟨t, rfl⟩ := ry
  obtain ⟨us, r, ⟨⟨cls, dd, data, sl⟩, ho, hc, n, hd⟩, hs⟩ := I.tuple hT
  simp only at hc hd
  subst hc hd
  have hlen : us.length = xs.length := r.length.symm
  have hi : us.toArray.isEmpty = false := by
    cases us with
    | nil => exact absurd (r.nil_iff.mp rfl) hne
    | cons _ _ => rfl
  have ask : ∀ {R : Result → Shared → Prop}, (∀ A, codeAny (model X.prog X.w) A (.builtin "tuple.__mul__" ⟨[.ref l, .int k t], []⟩) R s) → True := fun _ => trivial
  by_cases hk : k = 1
  · subst hk
    refine wpAny_binaryOp_repeat_ref (T := "tuple") (U := "int") (by decide) ⟨_, ho, rfl⟩ (fun s' => typeIs_int s' 1 t) noFill_tuple_mul F.fills_int_mul F.slot_int_rmul repeat_tuple F.slot_int_index.lookup
      (call_meets F.slot_int_rmul (typeIs_int s 1 t) F.entry_int_rmul (F.args_int_rmul_2 _ _) (int_rmul_tuple 1 t l us.toArray n dd sl) ⟨ho, rfl, ⟨_, ho, rfl⟩, ?_⟩)
    exact call_meets F.slot_tuple_mul ⟨_, ho, rfl⟩ F.entry_tuple_mul (F.args_tuple_mul_2 _ _) (tuple_mul_one l us.toArray n dd sl t) ⟨ho, .ref l, H, I, rfl, q1 rfl⟩
  · have hsz : us.toArray.size = xs.length := by rw [List.size_toArray, hlen]
    have big : (xs.length : Int) * k ≤ 1000 * 1000 := Int.le_trans (Int.mul_le_mul_of_nonneg_right (by omega : (xs.length : Int) ≤ 1000) (by omega)) (by omega)
    have fl : (List.replicate k.toNat us).flatten.length ≤ sizeLine := by
      rw [lm_len_rep_flat, hlen, line_eq]
      exact Nat.le_trans (Nat.mul_le_mul (by omega : k.toNat ≤ 1000) hz) (by decide)
    have fx : (List.replicate k.toNat xs).flatten.length ≤ sizeLine := by
      rw [lm_len_rep_flat, line_eq]
      exact Nat.le_trans (Nat.mul_le_mul (by omega : k.toNat ≤ 1000) hz) (by decide)
    refine wpAny_binaryOp_repeat_ref (T := "tuple") (U := "int") (by decide) ⟨_, ho, rfl⟩ (fun s' => typeIs_int s' k t) noFill_tuple_mul F.fills_int_mul F.slot_int_rmul repeat_tuple F.slot_int_index.lookup
      (call_meets F.slot_int_rmul (typeIs_int s k t) F.entry_int_rmul (F.args_int_rmul_2 _ _) (int_rmul_tuple k t l us.toArray n dd sl) ⟨ho, rfl, ⟨_, ho, rfl⟩, ?_⟩)
    refine call_meets F.slot_tuple_mul ⟨_, ho, rfl⟩ F.entry_tuple_mul (F.args_tuple_mul_2 _ _) (tuple_mulW l us.toArray n dd sl k t ?_ ?_ ?_ ?_ ?_ ?_) ⟨ho, ?_⟩
    · simp; omega
    · rw [hi]; simpa using hk
    · rw [hi]; simp; omega
    · rw [hsz]; omega
    · unfold Builtin.Tuple.tupleTooMany
      rw [hsz, line_eq]
      simp
      omega
    · rw [size_rep, List.size_toArray]; exact fl
    · rw [size_rep]
      exact laidT I (r.rep k.toNat) fx (q2 hk)
def gMul : U → U → Option U
  | .v (.int i), .v (.int j) => if cMul i j then some (.v (.int (i * j))) else none
  | .v (.tuple a), .v (.int k) => if decide (a ≠ []) && decide (1 ≤ k) && decide (k ≤ 1000) && decide (a.length ≤ 1000) then some (.v (.tuple (List.replicate k.toNat a).flatten)) else none
  | _, _ => none
theorem g_mul {X : Cx} : GOp (bsX X) (fun x y H Q => rI CMul (fun i j => .int (i * j)) x y H Q ∨ rRepF X.K x y H Q) gMul := by
  intro x y z e w σ H st vx vy Q s rx ry q
  unfold gMul at e
  split at e
  · split at e
    · rename_i hc
      cases e
      cases rx
      cases ry
      exact .inl ⟨_, _, rfl, rfl, cMul_ok hc, q w _ H (Le.rfl' w) s (.int _)⟩
    · cases e
  · split at e
    · rename_i a k hc
      cases e
      simp only [Bool.and_eq_true, decide_eq_true_eq] at hc
      obtain ⟨⟨⟨c1, c2⟩, c3⟩, c4⟩ := hc
      cases rx with
      | tup ex dx ra =>
        cases ry
        refine .inr ⟨_, _, _, rfl, rfl, .inl (.inr ⟨_, s.h.sub _ _ ex⟩), fun h0 => c1 (ra.nilV h0), c2, c3, by rw [← ra.length]; exact c4, fun h1 => ?_, fun _ p ob hp hd => ?_⟩
        · subst h1
          have e1 : (List.replicate (1 : Int).toNat a).flatten = a := by simp
          rw [e1] at q
          exact q w _ H (Le.rfl' w) s (.tup ex dx ra)
        · obtain ⟨w', l, s2, r2⟩ := s.newTup hp hd (ra.flat k.toNat)
          exact q w' _ _ l s2 r2
    · cases e
  · cases e
theorem e_mul {fa fb : EvU} (ha : PE X e1 (tU (bsX X) fa)) (hb : PE X e2 (tU (bsX X) fb)) : PE X (.BinOp e1 .Mult e2 pos) (tU (bsX X) (bin gMul fa fb)) :=
  e_bin (op_mul.or op_repF) g_mul ha hb
/-! ### - + not -/
def gNeg : U → Option U
  | .v (.int i) => some (.v (.int (-i)))
  | _ => none
theorem e_neg {fa : EvU} (ha : PE X e1 (tU (bsX X) fa)) : PE X (.UnaryOp .USub e1 pos) (tU (bsX X) (un gNeg fa)) :=
  e_un un_neg (fun x z e w σ H st vx Q s rx q => by
    unfold gNeg at e
    split at e
    · cases e
      cases rx
      exact ⟨_, rfl, q w _ H (Le.rfl' w) s (.int _)⟩
    · cases e) ha
def gInv : U → Option U
  | .v (.int i) => some (.v (.int (Builtin.bitNot i)))
  | _ => none
theorem e_inv {fa : EvU} (ha : PE X e1 (tU (bsX X) fa)) : PE X (.UnaryOp .Invert e1 pos) (tU (bsX X) (un gInv fa)) :=
  e_un un_inv (fun x z e w σ H st vx Q s rx q => by
    unfold gInv at e
    split at e
    · cases e
      cases rx
      exact ⟨_, rfl, q w _ H (Le.rfl' w) s (.int _)⟩
    · cases e) ha
/-! ### ==, is -/
def gEq : U → U → Option U
  | .v d, .v e => if SeqAt.shaped d && SeqAt.shaped e then some (.v (.bool (PyData.eqv d e))) else none
  | _, _ => none
def gNe : U → U → Option U
  | .v d, .v e => if SeqAt.shaped d && SeqAt.shaped e then some (.v (.bool (!PyData.eqv d e))) else none
  | _, _ => none
theorem e_eq {k : Nat} (hr : Room k X.A) {fa fb : EvU} (ha : PE X e1 (tU (bsX X) fa)) (hb : PE X e2 (tU (bsX X) fb)) : PE X (.Compare e1 [.Eq] [e2] pos) (tU (bsX X) (bin gEq fa fb)) :=
  e_cmp (op_eqD hr.units) (fun x y z e w σ H st vx vy Q s rx ry q => by
    unfold gEq at e
    split at e
    · split at e
      · rename_i hc
        cases e
        have hc' := Bool.and_eq_true_iff.mp hc
        exact ⟨_, _, Rp.dp s.h.sub rx, Rp.dp s.h.sub ry, hc'.1, hc'.2, q w _ H (Le.rfl' w) s (.bl _)⟩
      · cases e
    · cases e) ha hb (nomark _)
theorem e_ne {k : Nat} (hr : Room k X.A) {fa fb : EvU} (ha : PE X e1 (tU (bsX X) fa)) (hb : PE X e2 (tU (bsX X) fb)) : PE X (.Compare e1 [.NotEq] [e2] pos) (tU (bsX X) (bin gNe fa fb)) :=
  e_cmp (op_neD hr.units) (fun x y z e w σ H st vx vy Q s rx ry q => by
    unfold gNe at e
    split at e
    · split at e
      · rename_i hc
        cases e
        have hc' := Bool.and_eq_true_iff.mp hc
        exact ⟨_, _, Rp.dp s.h.sub rx, Rp.dp s.h.sub ry, hc'.1, hc'.2, q w _ H (Le.rfl' w) s (.bl _)⟩
      · cases e
    · cases e) ha hb (nomark _)
def isNone : U → Bool
  | .v .none => true
  | _ => false
def gIs : U → U → Option U
  | x, .v .none => some (.v (.bool (isNone x)))
  | _, _ => none
def gIsNot : U → U → Option U
  | x, .v .none => some (.v (.bool (!isNone x)))
  | _, _ => none
theorem isNone_ok {w : Wd} {x : U} {v : V} (r : RU B w x v) : decide (v = .non) = isNone x := by
  cases x with
  | v d =>
    have r : Rp w.F d v := r
    cases r <;> simp [isNone]
  | ref l =>
    obtain ⟨a, _, rfl⟩ := r
    simp [isNone]
  | scr ns =>
    obtain ⟨a, rfl, _⟩ := r
    simp [isNone]
  | fd kvs =>
    obtain ⟨a, rfl, _⟩ := r
    simp [isNone]
theorem e_is {fa fb : EvU} (ha : PE X e1 (tU (bsX X) fa)) (hb : PE X e2 (tU (bsX X) fb)) : PE X (.Compare e1 [.Is] [e2] pos) (tU (bsX X) (bin gIs fa fb)) :=
  e_cmp op_isN (fun x y z e w σ H st vx vy Q s rx ry q => by
    unfold gIs at e
    split at e
    · cases e
      cases ry
      exact ⟨rfl, by rw [isNone_ok rx]; exact q w _ H (Le.rfl' w) s (.bl _)⟩
    · cases e) ha hb (nomark _)
theorem e_isnot {fa fb : EvU} (ha : PE X e1 (tU (bsX X) fa)) (hb : PE X e2 (tU (bsX X) fb)) : PE X (.Compare e1 [.IsNot] [e2] pos) (tU (bsX X) (bin gIsNot fa fb)) :=
  e_cmp op_notN (fun x y z e w σ H st vx vy Q s rx ry q => by
    unfold gIsNot at e
    split at e
    · cases e
      cases ry
      exact ⟨rfl, by rw [isNone_ok rx]; exact q w _ H (Le.rfl' w) s (.bl _)⟩
    · cases e) ha hb (nomark _)

/-! ### argument lists, displays -/
def aNil : EvL := fun st => some ([], st)
def aCons (f : EvU) (g : EvL) : EvL := fun st => (f st).bind fun p => (g p.2).map fun q => (p.1 :: q.1, q.2)
theorem a_nil : PA X [] (tL B aNil) := paW pa_nil fun σ H Q ⟨w, st, x, st', s, hf, q⟩ => by
  cases hf
  exact q w _ H (Le.rfl' w) s .nil
theorem a_cons {f : EvU} {g : EvL} {es : List Expr} (h1 : PE X e (tU B f)) (h2 : PA X es (tL B g)) (hs : starEach (e :: es) X.env = (false, eval e X.env) :: starEach es X.env := by rfl) : PA X (e :: es) (tL B (aCons f g)) :=
  paW (pa_cons h1 h2 hs) fun σ H Q ⟨w, st, x, st', s, hf, q⟩ => by
    unfold aCons at hf
    cases ea : f st with
    | none => rw [ea] at hf; cases hf
    | some p =>
      rw [ea, Option.bind_some] at hf
      cases eb : g p.2 with
      | none => rw [eb] at hf; cases hf
      | some p2 =>
        rw [eb] at hf
        cases hf
        exact ⟨w, st, p.1, p.2, s, ea, fun w1 v1 H1 l1 s1 r1 => ⟨w1, p.2, p2.1, p2.2, s1, eb, fun w2 v2 H2 l2 s2 r2 => q w2 _ H2 (l1.trans l2) s2 (.cons (r1.mono l2) r2)⟩⟩
/-- all plain data -/
def datas : List U → Option (List PyData)
  | [] => some []
  | .v d :: r => (datas r).map (d :: ·)
  | _ => none
theorem datas_ok {w : Wd} : ∀ {xs : List U} {ds : List PyData} {vs : List V}, datas xs = some ds → RUs B w xs vs → RpAll w.F ds vs
  | [], _, _, e, r => by
    cases e
    cases r
    exact .nil
  | .v d :: xs, _, _, e, r => by
    unfold datas at e
    cases e1 : datas xs with
    | none => rw [e1] at e; cases e
    | some ds =>
      rw [e1] at e
      cases e
      cases r with
      | cons r t => exact .cons r (datas_ok e1 t)
  | .ref _ :: xs, _, _, e, r => by cases e
  | .scr _ :: xs, _, _, e, r => by cases e
  | .fd _ :: xs, _, _, e, r => by cases e
theorem datas_len : ∀ {xs : List U} {ds : List PyData}, datas xs = some ds → ds.length = xs.length
  | [], _, e => by cases e; rfl
  | .v d :: xs, _, e => by
    unfold datas at e
    cases e1 : datas xs with
    | none => rw [e1] at e; cases e
    | some ds =>
      rw [e1] at e
      cases e
      simp [datas_len e1]
  | .ref _ :: xs, _, e => by cases e
  | .scr _ :: xs, _, e => by cases e
  | .fd _ :: xs, _, e => by cases e
def tupF (f : EvL) : EvU := fun st => (f st).bind fun p => (datas p.1).bind fun ds => if lineOk ds.length then some (.v (.tuple ds), p.2) else none
def lstF (f : EvL) : EvO := fun st => (f st).bind fun p => (datas p.1).bind fun ds => if lineOk ds.length then some (.ol ds, p.2) else none
theorem e_tup {f : EvL} {es : List Expr} {k} (h : PA X es (tL B f)) : PE X (.Tuple es k pos) (tU B (tupF f)) := peW (pe_tupF h) fun σ H Q ⟨w, st, x, st', s, hf, q⟩ => by
  unfold tupF at hf
  cases ea : f st with
  | none => rw [ea] at hf; cases hf
  | some p =>
    rw [ea, Option.bind_some] at hf
    cases ed : datas p.1 with
    | none => rw [ed] at hf; cases hf
    | some ds =>
      rw [ed, Option.bind_some] at hf
      split at hf
      · rename_i hl
        cases hf
        refine ⟨w, st, p.1, p.2, s, ea, fun w1 vs H1 l1 s1 r1 => ?_⟩
        have rr := datas_ok ed r1
        refine ⟨by rw [← rr.length]; exact lineOk_le hl, fun a ob ha hd => ?_⟩
        obtain ⟨w', l, s2, r2⟩ := s1.newTup ha hd rr
        exact q w' _ _ (l1.trans l) s2 r2
      · cases hf
theorem e_lst {f : EvL} {es : List Expr} (h : PA X es (tL B f)) : PE X (.List es pos) (tE B (lstF f)) := peW (pe_lst h) fun σ H Q ⟨w, st, x, st', s, hf, q⟩ => by
  unfold lstF at hf
  cases ea : f st with
  | none => rw [ea] at hf; cases hf
  | some p =>
    rw [ea, Option.bind_some] at hf
    cases ed : datas p.1 with
    | none => rw [ed] at hf; cases hf
    | some ds =>
      rw [ed, Option.bind_some] at hf
      split at hf
      · rename_i hl
        cases hf
        refine ⟨w, st, p.1, p.2, s, ea, fun w1 vs H1 l1 s1 r1 => ?_⟩
        have rr := datas_ok ed r1
        refine ⟨by rw [← rr.length]; exact lineOk_le hl, fun a ha => ?_⟩
        obtain ⟨w', l, s2, r2⟩ := s1.newLst ha rr
        exact q w' _ _ (l1.trans l) s2 r2
      · cases hf

/-! ### tests -/
def boolOf : U → Option Bool
  | .v (.bool b) => some b
  | _ => none
theorem boolOf_ok {w : Wd} {x : U} {b : Bool} {v : V} (h : boolOf x = some b) (r : RU B w x v) : v = .bl b := by
  unfold boolOf at h
  split at h
  · cases h
    cases r
    rfl
  · cases h
/-- a value that is True or False, as a test -/
def tst (f : EvU) : EvT := fun st => (f st).bind fun p => (boolOf p.1).map fun b => (b, p.2)
theorem tst_ok {f : EvU} {σ : L2.St} {H : Hp} {Q : Bool → Hp → Prop} (h : tTs B (tst f) σ H Q) : tB (tU B f) σ H Q := by
  obtain ⟨w, st, b, st', s, hf, q⟩ := h
  unfold tst at hf
  cases ea : f st with
  | none => rw [ea] at hf; cases hf
  | some p =>
    rw [ea, Option.bind_some] at hf
    cases eb : boolOf p.1 with
    | none => rw [eb] at hf; cases hf
    | some c =>
      rw [eb] at hf
      cases hf
      exact ⟨w, st, p.1, p.2, s, ea, fun w1 v1 H1 l1 s1 r1 => ⟨_, boolOf_ok eb r1, q w1 H1 l1 s1⟩⟩
theorem t_val {f : EvU} (h : PE X e (tU B f)) (he : ∀ whole, isTrue e X.env whole = (do let v ← whole; standAt e.pos; holding [v] (truthy v)) := by intro _; rfl) : PT X e (tTs B (tst f)) :=
  ptW (pt_val h he) fun _ _ _ h => tst_ok h
section
variable {fa fb : EvU} (ha : PE X e1 (tU (bsX X) fa)) (hb : PE X e2 (tU (bsX X) fb))
include ha hb
theorem t_two {op : CmpOp} {r : R2} {g : U → U → Option U} (ho : OpR X (compareOp op) r) (hg : GOp (bsX X) r g) (hm : behindInMarks op e2 = false) : PT X (.Compare e1 [op] [e2] pos) (tTs (bsX X) (tst (bin g fa fb))) :=
  ptW (pt_cmpR ho ha hb hm) fun σ H Q h => by
    obtain ⟨w, st, b, st', s, hf, q⟩ := h
    have := tst_ok ⟨w, st, b, st', s, hf, q⟩
    exact two hg this
end
/-- the answers of a comparison's rule, as a test -/
theorem t_of {op : CmpOp} {f : EvU} (h : PE X (.Compare e1 [op] [e2] pos) (tU B f)) : True := trivial

/-! ### and, or, not, if else -/
def andU (f g : EvU) : EvU := fun st => (f st).bind fun p => (boolOf p.1).bind fun b => if b then g p.2 else some (.v (.bool false), p.2)
def orU (f g : EvU) : EvU := fun st => (f st).bind fun p => (boolOf p.1).bind fun b => if b then some (.v (.bool true), p.2) else g p.2
def notU (f : EvU) : EvU := fun st => (f st).bind fun p => (boolOf p.1).map fun b => (.v (.bool (!b)), p.2)
theorem e_one {op} {f : EvU} (h : PE X e (tU B f)) : PE X (.BoolOp op [e] pos) (tU B f) := pe_one h
theorem e_andB {f g : EvU} {rest : List Expr} (ha : PE X e1 (tU B f)) (hb : PE X (.BoolOp .And (e2 :: rest) pos) (tU B g)) : PE X (.BoolOp .And (e1 :: e2 :: rest) pos) (tU B (andU f g)) :=
  peW (pe_and ha hb) fun σ H Q ⟨w, st, x, st', s, hf, q⟩ => by
    unfold andU at hf
    cases ea : f st with
    | none => rw [ea] at hf; cases hf
    | some p =>
      rw [ea, Option.bind_some] at hf
      cases eb : boolOf p.1 with
      | none => rw [eb] at hf; cases hf
      | some c =>
        rw [eb, Option.bind_some] at hf
        refine ⟨w, st, p.1, p.2, s, ea, fun w1 v1 H1 l1 s1 r1 => ⟨c, boolOf_ok eb r1, ?_⟩⟩
        cases c with
        | true =>
          simp only [if_true] at hf ⊢
          exact ⟨w1, p.2, x, st', s1, hf, fun w2 v H2 l2 s2 r2 => q w2 v H2 (l1.trans l2) s2 r2⟩
        | false =>
          simp only [Bool.false_eq_true, if_false] at hf ⊢
          cases hf
          exact q w1 _ H1 l1 s1 (.bl _)
theorem e_orB {f g : EvU} {rest : List Expr} (ha : PE X e1 (tU B f)) (hb : PE X (.BoolOp .Or (e2 :: rest) pos) (tU B g)) : PE X (.BoolOp .Or (e1 :: e2 :: rest) pos) (tU B (orU f g)) :=
  peW (pe_or ha hb) fun σ H Q ⟨w, st, x, st', s, hf, q⟩ => by
    unfold orU at hf
    cases ea : f st with
    | none => rw [ea] at hf; cases hf
    | some p =>
      rw [ea, Option.bind_some] at hf
      cases eb : boolOf p.1 with
      | none => rw [eb] at hf; cases hf
      | some c =>
        rw [eb, Option.bind_some] at hf
        refine ⟨w, st, p.1, p.2, s, ea, fun w1 v1 H1 l1 s1 r1 => ⟨c, boolOf_ok eb r1, ?_⟩⟩
        cases c with
        | false =>
          simp only [Bool.false_eq_true, if_false] at hf ⊢
          exact ⟨w1, p.2, x, st', s1, hf, fun w2 v H2 l2 s2 r2 => q w2 v H2 (l1.trans l2) s2 r2⟩
        | true =>
          simp only [if_true] at hf ⊢
          cases hf
          exact q w1 _ H1 l1 s1 (.bl _)
theorem e_not {f : EvU} (ha : PE X e1 (tU B f)) : PE X (.UnaryOp .Not e1 pos) (tU B (notU f)) :=
  peW (pe_not ha) fun σ H Q ⟨w, st, x, st', s, hf, q⟩ => by
    unfold notU at hf
    cases ea : f st with
    | none => rw [ea] at hf; cases hf
    | some p =>
      rw [ea, Option.bind_some] at hf
      cases eb : boolOf p.1 with
      | none => rw [eb] at hf; cases hf
      | some c =>
        rw [eb] at hf
        cases hf
        exact ⟨w, st, p.1, p.2, s, ea, fun w1 v1 H1 l1 s1 r1 => ⟨c, boolOf_ok eb r1, q w1 _ H1 l1 s1 (.bl _)⟩⟩
def andT (f g : EvT) : EvT := fun st => (f st).bind fun p => if p.1 then g p.2 else some (false, p.2)
def orT (f g : EvT) : EvT := fun st => (f st).bind fun p => if p.1 then some (true, p.2) else g p.2
def notT (f : EvT) : EvT := fun st => (f st).map fun p => (!p.1, p.2)
theorem w_and1 {f : EvT} (ha : PT X e1 (tTs B f)) : PW X (.BoolOp .And [e1] pos) (tTs B f) := pw_and1 ha
theorem w_or1 {f : EvT} (ha : PT X e1 (tTs B f)) : PW X (.BoolOp .Or [e1] pos) (tTs B f) := pw_or1 ha
theorem w_and {f g : EvT} {rest : List Expr} (ha : PT X e1 (tTs B f)) (hb : PW X (.BoolOp .And (e2 :: rest) pos) (tTs B g)) : PW X (.BoolOp .And (e1 :: e2 :: rest) pos) (tTs B (andT f g)) :=
  pwW (pw_and ha hb) fun σ H Q ⟨w, st, x, st', s, hf, q⟩ => by
    unfold andT at hf
    cases ea : f st with
    | none => rw [ea] at hf; cases hf
    | some p =>
      rw [ea, Option.bind_some] at hf
      refine ⟨w, st, p.1, p.2, s, ea, fun w1 H1 l1 s1 => ?_⟩
      cases hp : p.1 with
      | true =>
        rw [hp] at hf
        simp only [if_true] at hf ⊢
        exact ⟨w1, p.2, x, st', s1, hf, fun w2 H2 l2 s2 => q w2 H2 (l1.trans l2) s2⟩
      | false =>
        rw [hp] at hf
        simp only [Bool.false_eq_true, if_false] at hf ⊢
        cases hf
        exact q w1 H1 l1 s1
theorem w_or {f g : EvT} {rest : List Expr} (ha : PT X e1 (tTs B f)) (hb : PW X (.BoolOp .Or (e2 :: rest) pos) (tTs B g)) : PW X (.BoolOp .Or (e1 :: e2 :: rest) pos) (tTs B (orT f g)) :=
  pwW (pw_or ha hb) fun σ H Q ⟨w, st, x, st', s, hf, q⟩ => by
    unfold orT at hf
    cases ea : f st with
    | none => rw [ea] at hf; cases hf
    | some p =>
      rw [ea, Option.bind_some] at hf
      refine ⟨w, st, p.1, p.2, s, ea, fun w1 H1 l1 s1 => ?_⟩
      cases hp : p.1 with
      | false =>
        rw [hp] at hf
        simp only [Bool.false_eq_true, if_false] at hf ⊢
        exact ⟨w1, p.2, x, st', s1, hf, fun w2 H2 l2 s2 => q w2 H2 (l1.trans l2) s2⟩
      | true =>
        rw [hp] at hf
        simp only [if_true] at hf ⊢
        cases hf
        exact q w1 H1 l1 s1
theorem t_not {f : EvT} (ha : PT X e1 (tTs B f)) : PT X (.UnaryOp .Not e1 pos) (tTs B (notT f)) :=
  ptW (pt_not ha) fun σ H Q ⟨w, st, x, st', s, hf, q⟩ => by
    unfold notT at hf
    cases ea : f st with
    | none => rw [ea] at hf; cases hf
    | some p =>
      rw [ea] at hf
      cases hf
      exact ⟨w, st, p.1, p.2, s, ea, fun w1 H1 l1 s1 => q w1 H1 l1 s1⟩
/-- a if t else b -/
def ifU (t : EvT) (f g : EvU) : EvU := fun st => (t st).bind fun p => if p.1 then f p.2 else g p.2
def ifO (t : EvT) (f g : EvO) : EvO := fun st => (t st).bind fun p => if p.1 then f p.2 else g p.2
theorem e_if {t : EvT} {f g : EvU} (hc : PT X e1 (tTs B t)) (ha : PE X e2 (tU B f)) (hb : PE X e3 (tU B g)) : PE X (.IfExp e1 e2 e3 pos) (tU B (ifU t f g)) :=
  peW (pe_ifExp hc ha hb) fun σ H Q ⟨w, st, x, st', s, hf, q⟩ => by
    unfold ifU at hf
    cases ea : t st with
    | none => rw [ea] at hf; cases hf
    | some p =>
      rw [ea, Option.bind_some] at hf
      refine ⟨w, st, p.1, p.2, s, ea, fun w1 H1 l1 s1 => ?_⟩
      cases hp : p.1 with
      | true =>
        rw [hp] at hf
        simp only [if_true] at hf ⊢
        exact ⟨w1, p.2, x, st', s1, hf, fun w2 v H2 l2 s2 r2 => q w2 v H2 (l1.trans l2) s2 r2⟩
      | false =>
        rw [hp] at hf
        simp only [Bool.false_eq_true, if_false] at hf ⊢
        exact ⟨w1, p.2, x, st', s1, hf, fun w2 v H2 l2 s2 r2 => q w2 v H2 (l1.trans l2) s2 r2⟩
theorem e_ifO {t : EvT} {f g : EvO} (hc : PT X e1 (tTs B t)) (ha : PE X e2 (tE B f)) (hb : PE X e3 (tE B g)) : PE X (.IfExp e1 e2 e3 pos) (tE B (ifO t f g)) :=
  peW (pe_ifExp hc ha hb) fun σ H Q ⟨w, st, x, st', s, hf, q⟩ => by
    unfold ifO at hf
    cases ea : t st with
    | none => rw [ea] at hf; cases hf
    | some p =>
      rw [ea, Option.bind_some] at hf
      refine ⟨w, st, p.1, p.2, s, ea, fun w1 H1 l1 s1 => ?_⟩
      cases hp : p.1 with
      | true =>
        rw [hp] at hf
        simp only [if_true] at hf ⊢
        exact ⟨w1, p.2, x, st', s1, hf, fun w2 v H2 l2 s2 r2 => q w2 v H2 (l1.trans l2) s2 r2⟩
      | false =>
        rw [hp] at hf
        simp only [Bool.false_eq_true, if_false] at hf ⊢
        exact ⟨w1, p.2, x, st', s1, hf, fun w2 v H2 l2 s2 r2 => q w2 v H2 (l1.trans l2) s2 r2⟩
end
end MP

namespace MP
open PySem PySem.Spec PyProof.Rows L2

section
variable {X : Cx} {pins : List (Addr × Obj)} {σ : L2.St} {H H' : Hp} {s : Shared} {F : Hp} {B : Bs} {w w' : Wd} {a : Addr}

/-! ## dicts over the heap -/
mutual
theorem nest_of (I : Inv X pins σ H s) (hs : ∀ a o, F a = some o → H a = some o) : ∀ {d : PyData} {v : V} {u : Value} {k : NestedKey}, Rp F d v → nk d = some k → RelV v u → NestedIs s.heap k u
  | _, _, _, _, .non, e, r => by
    cases e
    cases r
    exact .none
  | _, _, _, _, .bl b, e, r => by cases e
  | _, _, _, _, .int i, e, r => by
    cases e
    obtain ⟨t, rfl⟩ := r
    exact .int i t
  | _, _, _, _, .str x, e, r => by
    cases e
    obtain ⟨t, rfl⟩ := r
    exact .text x t
  | _, _, _, _, .lst _ _, e, r => by cases e
  | _, _, _, k, .tup (ds := ds) ea da ra, e, r => by
    unfold nk at e
    cases q : nks ds with
    | none => rw [q] at e; cases e
    | some ks =>
      rw [q] at e
      cases e
      cases r
      obtain ⟨its, rv, ⟨o, ho, hc, n, hd⟩, _⟩ := I.tuple (.inl (.inr ⟨_, hs _ _ ea⟩))
      exact .tup ho hc hd (by simpa using nest_all I hs ra q rv)
theorem nest_all (I : Inv X pins σ H s) (hs : ∀ a o, F a = some o → H a = some o) : ∀ {ds : List PyData} {vs : List V} {us : List Value} {ks : List NestedKey}, RpAll F ds vs → nks ds = some ks → Vals vs us → NestedAll s.heap ks us
  | _, _, _, _, .nil, e, r => by
    cases e
    cases r
    exact .nil
  | _, _, _, _, .cons (d := d) (ds := ds) ra rt, e, r => by
    unfold nks at e
    cases q : nk d with
    | none => rw [q] at e; cases e
    | some k =>
      cases q2 : nks ds with
      | none => rw [q, q2] at e; cases e
      | some ks =>
        rw [q, q2] at e
        cases e
        cases r with
        | cons r1 r2 => exact .cons (nest_of I hs ra q r1) (nest_all I hs rt q2 r2)
end
theorem kf_nk {d : PyData} {k : NestedKey} (h : kf d = some k) : nk d = some k ∧ k.depth ≤ 8 := by
  unfold kf at h
  cases q : nk d with
  | none => rw [q] at h; cases h
  | some k' =>
    rw [q, Option.bind_some] at h
    split at h
    · rename_i hd
      cases h
      exact ⟨rfl, hd⟩
    · cases h
theorem key_is (I : Inv X pins σ H s) (hs : ∀ a o, F a = some o → H a = some o) {d : PyData} {b : Addr} {k : NestedKey} (r : Rp F d (.ref b)) (e : kf d = some k) :
    (nestedKind X.prog X.w).is s.heap k b := ⟨nest_of I hs r (kf_nk e).1 rfl, (kf_nk e).2⟩
theorem tup_ref {F : Hp} {d : PyData} {v : V} (t : isTup d = true) (r : Rp F d v) : ∃ b, v = .ref b := by
  cases r <;> first | exact ⟨_, rfl⟩ | (simp [isTup] at t)
theorem key_ref {F : Hp} {d : PyData} {v : V} {k : Key} (t : keyV d = some k) (r : Rp F d v) : v = kV k := by
  cases r <;> simp [keyV] at t <;> subst t <;> rfl
theorem keyV_tup {d : PyData} {k : Key} (t : keyV d = some k) : isTup d = false := by
  cases d <;> simp [keyV, isTup] at t ⊢

/-- an entry of a dict with tuple keys: what it is, what stands in the heap -/
def TT (B : Bs) (w : Wd) (p : PyData × U) (q : NestedKey × Addr × Value) : Prop :=
  kf p.1 = some q.1 ∧ isTup p.1 = true ∧ Rp w.F p.1 (.ref q.2.1) ∧ ∃ v, RU B w p.2 v ∧ RelV v q.2.2
def KK (B : Bs) (w : Wd) (p : PyData × U) (q : Key × V) : Prop := keyV p.1 = some q.1 ∧ RU B w p.2 q.2
theorem tt_join : ∀ {kvs : List (PyData × U)} {xs : List (NestedKey × Addr × V)} {ys : List (NestedKey × Addr × Value)},
    Paired (fun p q => kf p.1 = some q.1 ∧ isTup p.1 = true ∧ Rp w.F p.1 (.ref q.2.1) ∧ RU B w p.2 q.2.2) kvs xs →
    Paired (fun (x : NestedKey × Addr × V) (y : NestedKey × Addr × Value) => x.1 = y.1 ∧ x.2.1 = y.2.1 ∧ RelV x.2.2 y.2.2) xs ys → Paired (TT B w) kvs ys
  | _, _, _, .nil, .nil => .nil
  | _, _, _, .cons r t, .cons q u => .cons ⟨q.1 ▸ r.1, r.2.1, q.2.1 ▸ r.2.2.1, _, r.2.2.2, q.2.2⟩ (tt_join t u)
theorem tt_split : ∀ {kvs : List (PyData × U)} {ys : List (NestedKey × Addr × Value)}, Paired (TT B w) kvs ys →
    ∃ xs : List (NestedKey × Addr × V), Paired (fun p q => kf p.1 = some q.1 ∧ isTup p.1 = true ∧ Rp w.F p.1 (.ref q.2.1) ∧ RU B w p.2 q.2.2) kvs xs ∧
      Paired (fun (x : NestedKey × Addr × V) (y : NestedKey × Addr × Value) => x.1 = y.1 ∧ x.2.1 = y.2.1 ∧ RelV x.2.2 y.2.2) xs ys
  | _, _, .nil => ⟨[], .nil, .nil⟩
  | _, _, .cons (b := y) ⟨r1, r2, r3, v, r4, r5⟩ t => by
    obtain ⟨xs, q1, q2⟩ := tt_split t
    exact ⟨(y.1, y.2.1, v) :: xs, .cons ⟨r1, r2, r3, r4⟩ q1, .cons ⟨rfl, rfl, r5⟩ q2⟩
/-- the dict at a has tuple keys (or none at all) -/
def tupKeys (kvs : List (PyData × U)) : Bool := match kvs with
  | [] => true
  | p :: _ => isTup p.1
/-- .. has number and text keys (or none at all) -/
def flatKeys (kvs : List (PyData × U)) : Bool := match kvs with
  | [] => true
  | p :: _ => !isTup p.1
theorem d_open (I : Inv X pins σ H s) (hs : ∀ a o, w.F a = some o → H a = some o) {kvs : List (PyData × U)} (hk : tupKeys kvs = true) (h : RDictR (bsX X) w H a kvs) :
    ∃ ys, s.heap.DictOfH (nestedKind X.prog X.w) a ys ∧ Paired (TT (bsX X) w) kvs ys ∧ (a == sysModules) = false ∧ ys.length ≤ sizeLine := by
  rcases h with ⟨ys, e, r⟩ | ⟨n, xs, e, r⟩
  · cases kvs with
    | nil =>
      cases r
      obtain ⟨z, hd, vs, rel, dd⟩ := dk_rd I.hok e
      cases rel
      obtain ⟨o, es, ep, h1, h2, h3, _, h4, _⟩ := dd
      have h5 : es.toList = [] := by
        generalize es.toList = l at h4
        cases l with
        | nil => rfl
        | cons _ _ => cases h4
      exact ⟨[], ⟨o, es, ep, h1, h2, h3, h5, fun _ h => absurd h (by simp), List.nodup_nil⟩, .nil, hd, Nat.zero_le _⟩
    | cons p t =>
      cases r with
      | cons r1 r2 =>
        have := keyV_tup r1.1
        rw [show isTup p.1 = true from hk] at this
        cases this
  · obtain ⟨⟨ys, p, hd, z, o, es, ep, h1, h2, h3, h4, h5⟩, _⟩ := e.ok I.hok
    have t := tt_join r p
    refine ⟨ys, ⟨o, es, ep, h1, h2, h3, h4, ?_, h5⟩, t, hd, z⟩
    clear h4 h5 z p r n hk e
    intro x hx
    revert x
    induction t with
    | nil => intro x hx; exact absurd hx (by simp)
    | cons r t ih =>
      intro x hx
      rcases List.mem_cons.mp hx with rfl | hx
      · exact key_is I hs r.2.2.1 r.1
      · exact ih x hx
theorem d_close {P : Program} {w0 : World} {H' : Hp} {h' : Heap} {kvs : List (PyData × U)} {ys : List (NestedKey × Addr × Value)} (dd : h'.DictOfH (nestedKind P w0) a ys) (t : Paired (TT B w) kvs ys) (hd : (a == sysModules) = false) (hz : ys.length ≤ sizeLine) :
    ∃ xs : List (NestedKey × Addr × V), ObjOk P w0 H' h' a (dHO P w0 a xs) ∧ Paired (fun p q => kf p.1 = some q.1 ∧ isTup p.1 = true ∧ Rp w.F p.1 (.ref q.2.1) ∧ RU B w p.2 q.2.2) kvs xs := by
  obtain ⟨xs, q1, q2⟩ := tt_split t
  obtain ⟨o, es, ep, h1, h2, h3, h4, _, h5⟩ := dd
  refine ⟨xs, ⟨⟨ys, q2, hd, hz, o, es, ep, h1, h2, h3, h4, h5⟩, ⟨o, h1⟩, ?_⟩, q1⟩
  rintro k1 k2 ⟨ys', q2', hd', hz', o', es', ep', g1, g2, g3, g4, g5⟩ keep
  exact ⟨ys', q2', hd', hz', o', es', ep', keep _ g1, g2, g3, g4, g5⟩
theorem flat_form {kvs : List (PyData × U)} (hk : flatKeys kvs = true) (h : RDictR B w H a kvs) : ∃ ys : List (Key × V), Rd H a (.dK ys) ∧ Paired (KK B w) kvs ys := by
  rcases h with ⟨ys, e, r⟩ | ⟨n, xs, e, r⟩
  · exact ⟨ys, e, r⟩
  · cases kvs with
    | nil => exact absurd rfl n
    | cons p t =>
      cases r with
      | cons r1 r2 =>
        have : (!isTup p.1) = true := hk
        rw [r1.2.1] at this
        cases this

theorem flat_formD {kvs : List (PyData × U)} (hk : flatKeys kvs = true) (h : RDict B w H a kvs) : ∃ ys : List (Key × V), H a = some (.dK ys) ∧ Paired (KK B w) kvs ys := by
  rcases h with ⟨ys, e, r⟩ | ⟨n, xs, e, r⟩
  · exact ⟨ys, e, r⟩
  · cases kvs with
    | nil => exact absurd rfl n
    | cons p t =>
      cases r with
      | cons r1 r2 =>
        have : (!isTup p.1) = true := hk
        rw [r1.2.1] at this
        cases this

/-! ### look-ups -/
def sameK (k : PyData) (p : PyData × U) : Bool := decide (kf p.1 = kf k)
/-- the key has the dict's kind -/
def kOk (kvs : List (PyData × U)) (k : PyData) : Bool := (isTup k && tupKeys kvs && (kf k).isSome) || ((keyV k).isSome && flatKeys kvs)
def dget (kvs : List (PyData × U)) (k : PyData) : Option U := (kvs.find? (sameK k)).map (·.2)
def dput (kvs : List (PyData × U)) (k : PyData) (x : U) : List (PyData × U) :=
  if (dget kvs k).isSome then kvs.map fun p => if sameK k p then (p.1, x) else p else kvs ++ [(k, x)]
theorem tt_find {k : PyData} {key : NestedKey} (e : kf k = some key) : ∀ {kvs : List (PyData × U)} {ys : List (NestedKey × Addr × Value)}, Paired (TT B w) kvs ys →
    (dget kvs k = none ∧ atKey ys key = none) ∨ ∃ x v q, dget kvs k = some x ∧ atKey ys key = some q ∧ RU B w x v ∧ RelV v q.2
  | _, _, .nil => .inl ⟨rfl, rfl⟩
  | _, _, .cons (a := p) (b := y) (l₁ := kvs) (l₂ := ys) r t => by
    have hc : sameK k p = decide (y.1 = key) := by
      unfold sameK
      rw [r.1, e]
      by_cases h : y.1 = key
      · rw [h]; simp
      · rw [decide_eq_false h]; simp [h]
    unfold dget atKey
    rw [List.find?_cons, List.find?_cons, hc]
    by_cases h : y.1 = key
    · rw [decide_eq_true h]
      obtain ⟨_, _, _, v, h1, h2⟩ := r
      exact .inr ⟨p.2, v, y.2, rfl, rfl, h1, h2⟩
    · rw [decide_eq_false h]
      exact tt_find e t
theorem kk_key {d k : PyData} {c c' : Key} (h : keyV d = some c) (h' : keyV k = some c') : decide (kf d = kf k) = decide (c = c') := by
  cases d <;> simp [keyV] at h <;> cases k <;> simp [keyV] at h' <;> subst h <;> subst h' <;> simp [kf, nk, NestedKey.depth]
theorem kk_find {k : PyData} {key : Key} (e : keyV k = some key) : ∀ {kvs : List (PyData × U)} {ys : List (Key × V)}, Paired (KK B w) kvs ys →
    (dget kvs k = none ∧ valV ys key = none) ∨ ∃ x v, dget kvs k = some x ∧ valV ys key = some v ∧ RU B w x v
  | _, _, .nil => .inl ⟨rfl, rfl⟩
  | _, _, .cons (a := p) (b := y) (l₁ := kvs) (l₂ := ys) r t => by
    have hc : sameK k p = decide (y.1 = key) := kk_key r.1 e
    unfold dget valV
    rw [List.find?_cons, List.find?_cons, hc]
    by_cases h : y.1 = key
    · rw [decide_eq_true h]
      exact .inr ⟨p.2, y.2, rfl, rfl, r.2⟩
    · rw [decide_eq_false h]
      exact kk_find e t
theorem kOk_cases {kvs : List (PyData × U)} {k : PyData} (h : kOk kvs k = true) : (isTup k = true ∧ tupKeys kvs = true ∧ ∃ c, kf k = some c) ∨ (∃ c, keyV k = some c) ∧ flatKeys kvs = true := by
  unfold kOk at h
  simp only [Bool.or_eq_true, Bool.and_eq_true] at h
  rcases h with ⟨⟨h1, h2⟩, h3⟩ | ⟨h1, h2⟩
  · exact .inl ⟨h1, h2, Option.isSome_iff_exists.mp h3⟩
  · exact .inr ⟨Option.isSome_iff_exists.mp h1, h2⟩
variable {A : Around} {E : Value → Shared → Prop}
/-- d[k], there -/
theorem dd_get {Q : Value → Shared → Prop} {kvs : List (PyData × U)} {k : PyData} {x : U} {vk : V} {u : Value} (hu : A.units + 64 < cLine) (I : Inv X pins σ H s) (hs : ∀ a o, w.F a = some o → H a = some o) (h : RDictR (bsX X) w H a kvs)
    (ho : kOk kvs k = true) (hx : dget kvs k = some x) (rk : Rp w.F k vk) (ru : RelV vk u) (q : ∀ v w' s', Inv X pins σ H s' → RU (bsX X) w x v → RelV v w' → Q w' s') : wpAny (model X.prog X.w) A (getItem (.ref a) u) Q E s := by
  rcases kOk_cases ho with ⟨t, tk, c, e⟩ | ⟨⟨c, e⟩, fk⟩
  · obtain ⟨ys, dd, tt, hd, hz⟩ := d_open I hs tk h
    obtain ⟨b, rfl⟩ := tup_ref t rk
    cases ru
    rcases tt_find e tt with ⟨z, _⟩ | ⟨x', v, p, hx', hp, r1, r2⟩
    · rw [hx] at z; cases z
    · rw [hx] at hx'
      cases hx'
      exact wpAny_getItem_heap (by show A.in1.units + 8 < cLine; show A.units + 1 + 8 < cLine; omega) (key_is I hs rk e) dd hp (q v p.2 _ (I.tok _) r1 r2)
  · obtain ⟨ys, e1, kk⟩ := flat_form fk h
    obtain rfl := key_ref e rk
    rcases kk_find e kk with ⟨z, _⟩ | ⟨x', v, hx', hp, r1⟩
    · rw [hx] at z; cases z
    · rw [hx] at hx'
      cases hx'
      exact d_getItem (v := v) (by omega) I (by have : DGet H a (kV c) (valV _ c) := .inl ⟨_, c, e1, rfl, rfl⟩; rw [hp] at this; exact this) ru fun w' s' I' r' => q v w' s' I' r1 r'
/-- k in d -/
theorem dd_in {Q : Value → Shared → Prop} {kvs : List (PyData × U)} {k : PyData} {vk : V} {u : Value} (hu : A.units + 64 < cLine) (I : Inv X pins σ H s) (hs : ∀ a o, w.F a = some o → H a = some o) (h : RDictR (bsX X) w H a kvs)
    (ho : kOk kvs k = true) (rk : Rp w.F k vk) (ru : RelV vk u) (q : ∀ s', Inv X pins σ H s' → Q (.bool (dget kvs k).isSome) s') : wpAny (model X.prog X.w) A (compareOp .In u (.ref a)) Q E s := by
  rcases kOk_cases ho with ⟨t, tk, c, e⟩ | ⟨⟨c, e⟩, fk⟩
  · obtain ⟨ys, dd, tt, hd, hz⟩ := d_open I hs tk h
    obtain ⟨b, rfl⟩ := tup_ref t rk
    cases ru
    refine wpAny_in_heap (by show A.in1.units + 8 < cLine; show A.units + 1 + 8 < cLine; omega) (key_is I hs rk e) hd dd ?_
    have : (atKey ys c).isSome = (dget kvs k).isSome := by
      rcases tt_find e tt with ⟨z1, z2⟩ | ⟨x', v, p, z1, z2, _⟩ <;> rw [z1, z2] <;> rfl
    rw [this]
    exact q _ (I.tok _)
  · obtain ⟨ys, e1, kk⟩ := flat_form fk h
    obtain rfl := key_ref e rk
    have : (valV ys c).isSome = (dget kvs k).isSome := by
      rcases kk_find e kk with ⟨z1, z2⟩ | ⟨x', v, z1, z2, _⟩ <;> rw [z1, z2] <;> rfl
    exact d_in (by omega) I (.inl ⟨_, c, e1, rfl, rfl⟩ : DGet _ _ _ (valV _ c)) ru fun s' I' => by rw [this]; exact q s' I'
theorem dd_notIn {Q : Value → Shared → Prop} {kvs : List (PyData × U)} {k : PyData} {vk : V} {u : Value} (hu : A.units + 64 < cLine) (I : Inv X pins σ H s) (hs : ∀ a o, w.F a = some o → H a = some o) (h : RDictR (bsX X) w H a kvs)
    (ho : kOk kvs k = true) (rk : Rp w.F k vk) (ru : RelV vk u) (q : ∀ s', Inv X pins σ H s' → Q (.bool (!(dget kvs k).isSome)) s') : wpAny (model X.prog X.w) A (compareOp .NotIn u (.ref a)) Q E s := by
  rcases kOk_cases ho with ⟨t, tk, c, e⟩ | ⟨⟨c, e⟩, fk⟩
  · obtain ⟨ys, dd, tt, hd, hz⟩ := d_open I hs tk h
    obtain ⟨b, rfl⟩ := tup_ref t rk
    cases ru
    refine wpAny_notIn_heap (by show A.in1.units + 8 < cLine; show A.units + 1 + 8 < cLine; omega) (key_is I hs rk e) hd dd ?_
    have : (atKey ys c).isSome = (dget kvs k).isSome := by
      rcases tt_find e tt with ⟨z1, z2⟩ | ⟨x', v, p, z1, z2, _⟩ <;> rw [z1, z2] <;> rfl
    rw [this]
    exact q _ (I.tok _)
  · obtain ⟨ys, e1, kk⟩ := flat_form fk h
    obtain rfl := key_ref e rk
    have : (valV ys c).isSome = (dget kvs k).isSome := by
      rcases kk_find e kk with ⟨z1, z2⟩ | ⟨x', v, z1, z2, _⟩ <;> rw [z1, z2] <;> rfl
    exact d_notIn (by omega) I (.inl ⟨_, c, e1, rfl, rfl⟩ : DGet _ _ _ (valV _ c)) ru fun s' I' => by rw [this]; exact q s' I'
/-! ### stores -/
theorem tt_put {k : PyData} {key : NestedKey} {b : Addr} {x : U} {v : V} {z : Value} (e : kf k = some key) (t : isTup k = true) (rk : Rp w.F k (.ref b)) (rx : RU B w x v) (rv : RelV v z) {kvs : List (PyData × U)} {ys : List (NestedKey × Addr × Value)} (tt : Paired (TT B w) kvs ys) :
    Paired (TT B w) (dput kvs k x) (storedH ys key b z) := by
  have hm : ∀ {kvs : List (PyData × U)} {ys : List (NestedKey × Addr × Value)}, Paired (TT B w) kvs ys → Paired (TT B w) (kvs.map fun p => if sameK k p then (p.1, x) else p) (ys.map (putAt key z)) := by
    intro kvs ys tt
    induction tt with
    | nil => exact .nil
    | cons r _ ih =>
      rename_i p y l m _
      rw [List.map_cons, List.map_cons]
      refine .cons ?_ ih
      have hc : sameK k p = decide (y.1 = key) := by
        unfold sameK
        rw [r.1, e]
        by_cases h : y.1 = key
        · rw [h]; simp
        · rw [decide_eq_false h]; simp [h]
      unfold putAt
      rw [hc]
      by_cases h : y.1 = key
      · rw [decide_eq_true h, if_pos rfl, if_pos h]
        exact ⟨r.1, r.2.1, r.2.2.1, v, rx, rv⟩
      · rw [decide_eq_false h, if_neg Bool.false_ne_true, if_neg h]
        exact r
  have app : ∀ {l : List (PyData × U)} {m : List (NestedKey × Addr × Value)}, Paired (TT B w) l m → Paired (TT B w) (l ++ [(k, x)]) (m ++ [(key, b, z)]) := by
    intro l m h
    induction h with
    | nil => exact .cons ⟨e, t, rk, v, rx, rv⟩ .nil
    | cons r _ ih => exact .cons r ih
  unfold dput storedH
  rcases tt_find e tt with ⟨z1, z2⟩ | ⟨x', v', p, z1, z2, _⟩
  · rw [z1, z2]
    exact app tt
  · rw [z1, z2]
    exact hm tt
theorem kk_put {k : PyData} {key : Key} {x : U} {v : V} (e : keyV k = some key) (rx : RU B w x v) {kvs : List (PyData × U)} {ys : List (Key × V)} (tt : Paired (KK B w) kvs ys) :
    Paired (KK B w) (dput kvs k x) (putK ys key v) := by
  have hm : ∀ {kvs : List (PyData × U)} {ys : List (Key × V)}, Paired (KK B w) kvs ys → Paired (KK B w) (kvs.map fun p => if sameK k p then (p.1, x) else p) (ys.map fun kv => if kv.1 = key then (kv.1, v) else kv) := by
    intro kvs ys tt
    induction tt with
    | nil => exact .nil
    | cons r _ ih =>
      rename_i p y l m _
      rw [List.map_cons, List.map_cons]
      refine .cons ?_ ih
      have hc : sameK k p = decide (y.1 = key) := kk_key r.1 e
      rw [hc]
      by_cases h : y.1 = key
      · rw [decide_eq_true h, if_pos rfl, if_pos h]
        exact ⟨r.1, rx⟩
      · rw [decide_eq_false h, if_neg Bool.false_ne_true, if_neg h]
        exact r
  have app : ∀ {l : List (PyData × U)} {m : List (Key × V)}, Paired (KK B w) l m → Paired (KK B w) (l ++ [(k, x)]) (m ++ [(key, v)]) := by
    intro l m h
    induction h with
    | nil => exact .cons ⟨e, rx⟩ .nil
    | cons r _ ih => exact .cons r ih
  rcases kk_find e tt with ⟨z1, z2⟩ | ⟨x', v', z1, z2, _⟩
  · rw [putK_new v z2]
    unfold dput
    rw [z1]
    exact app tt
  · have : putK ys key v = ys.map fun kv => if kv.1 = key then (kv.1, v) else kv := by
      unfold putK
      rw [if_pos]
      rw [valV_any, z2]
      rfl
    rw [this]
    unfold dput
    rw [z1]
    exact hm tt
theorem dput_tup {kvs : List (PyData × U)} {k : PyData} {x : U} (h1 : isTup k = true) : dput kvs k x ≠ [] := by
  unfold dput
  split
  · rename_i h
    cases kvs with
    | nil => cases h
    | cons _ _ => simp
  · simp
theorem sys_of (I : Inv X pins σ H s) {kvs : List (PyData × U)} (h : RDictR (bsX X) w H a kvs) : (a == sysModules) = false := by
  rcases h with ⟨ys, e, r⟩ | ⟨n, xs, e, r⟩
  · exact (dk_rd I.hok e).2.1
  · obtain ⟨⟨_, _, hd, _⟩, _⟩ := e.ok I.hok
    exact hd
/-- d[k] = v -/
theorem dd_set {Q : Unit → Shared → Prop} {kvs : List (PyData × U)} {k : PyData} {x : U} {vk vx : V} {u z : Value} (hu : A.units + 64 < cLine) (I : Inv X pins σ H s) (hs : ∀ a o, w.F a = some o → H a = some o) (h : RDict (bsX X) w H a kvs)
    (ho : kOk kvs k = true) (hl : kvs.length < sizeLine) (rk : Rp w.F k vk) (ru : RelV vk u) (rx : RU (bsX X) w x vx) (rz : RelV vx z)
    (q : ∀ o s', Inv X pins σ (upd H a o) s' → RDict (bsX X) w (upd H a o) a (dput kvs k x) → Q () s') : wpAny (model X.prog X.w) A (setItem (.ref a) u z) Q E s := by
  rcases kOk_cases ho with ⟨t, tk, c, e⟩ | ⟨⟨c, e⟩, fk⟩
  · obtain ⟨ys, dd, tt, hd, hz⟩ := d_open I hs tk h.r
    obtain ⟨b, rfl⟩ := tup_ref t rk
    cases ru
    have hn : kvs.length = ys.length := Paired.length tt
    have hp := tt_put e t rk rx rz tt
    have hle : (storedH ys c b z).length ≤ sizeLine := by
      unfold storedH
      split
      · rw [List.length_map]; exact hz
      · rw [List.length_append]
        show ys.length + 1 ≤ _
        omega
    refine wpAny_setItem_heap (hsz := hz) (by show A.in1.units + 8 < cLine; show A.units + 1 + 8 < cLine; omega) (key_is I hs rk e) dd fun h' dd' sb => ?_
    obtain ⟨xs, ok, pp⟩ := d_close (H' := upd H a (dHO X.prog X.w a [])) dd' hp hd hle
    obtain ⟨xs, ok, pp⟩ := d_close (H' := upd H a (dHO X.prog X.w a xs)) dd' hp hd hle
    obtain ⟨o, es, ep, h1, _⟩ := id dd'
    have mu : Mut (H a) := RC.mut (c := .cd kvs) h
    have ok2 : ObjOk X.prog X.w (upd H a (dHO X.prog X.w a xs)) h' a (dHO X.prog X.w a xs) := ok
    exact q _ _ (d_write I mu sb ⟨o, h1⟩ ok2) (.inr ⟨dput_tup t, xs, upd_same, pp⟩)
  · obtain ⟨ys, e1, kk⟩ := flat_formD fk h
    obtain rfl := key_ref e rk
    have hn : kvs.length = ys.length := Paired.length kk
    exact d_setItem (by omega) I (DPut.k (v := vx) e1 (by omega)) ru rz fun s' I' => q _ s' I' (.inl ⟨_, upd_same, kk_put e rx kk⟩)
end
end MP

namespace MP
open PySem PySem.Spec PyProof.Rows L2

/-! ## receivers: what is read, or changed, without being taken -/
inductive Hn where
  | sl (i : Nat)
  | u (x : U)
inductive Sq where
  | l (xs : List PyData)
  | t (xs : List PyData)
  | d (kvs : List (PyData × U))
  | s (x : Str)
abbrev EvR := Stt → Option (Hn × Stt)
def RH (B : Bs) (w : Wd) (σ : L2.St) : Hn → V → Prop
  | .sl i, v => σ[i]? = some (some v)
  | .u x, v => RU B w x v
def tR (B : Bs) (f : EvR) : TE := fun σ H Q => ∃ w st x st', Sim B w σ H st ∧ f st = some (x, st') ∧
  ∀ w' v H', Le w w' → Sim B w' σ H' st' → RH B w' σ x v → Q v H'
theorem RH.mono {B : Bs} {w w' : Wd} {σ : L2.St} (h : Le w w') : ∀ {x : Hn} {v : V}, RH B w σ x v → RH B w' σ x v
  | .sl _, _, r => r
  | .u _, _, r => RU.mono h r
def cellSq : Cell → Sq
  | .cl xs => .l xs
  | .cd kvs => .d kvs
def sqO (S : List Cell) : O → Option Sq
  | .ol xs => some (.l xs)
  | .od kvs => some (.d kvs)
  | .u (.v (.list xs)) => some (.l xs)
  | .u (.v (.tuple xs)) => some (.t xs)
  | .u (.v (.str x)) => some (.s x)
  | .u (.ref l) => (S[l]?).map cellSq
  | .u (.scr ns) => some (.l (ns.map .int))
  | .u (.fd kvs) => some (.d (Wv.kvs kvs))
  | _ => none
def look (st : Stt) : Hn → Option Sq
  | .sl i => match st.r[i]? with
    | some (some o) => sqO st.S o
    | _ => none
  | .u x => sqO st.S (.u x)
def RSq (B : Bs) (w : Wd) (H : Hp) : Sq → V → Prop
  | .l xs, v => ∃ a vs, v = .ref a ∧ SqL B.K H a vs ∧ RpAll w.F xs vs
  | .t xs, v => ∃ a vs, v = .ref a ∧ SqT B.K H a vs ∧ RpAll w.F xs vs ∧ ∃ o, H a = some (.frz o (.tup vs)) ∧ o.dict = none
  | .d kvs, v => ∃ a, v = .ref a ∧ RDictR B w H a kvs
  | .s x, v => v = .str x
section
variable {X : Cx} {e e1 e2 e3 : Expr} {pos : Pos} {B : Bs} {w w' : Wd} {σ : L2.St} {H : Hp} {st : Stt} {a : Addr}
theorem sqO_ok (s : SimH B w H st.S) {tg : Tag} : ∀ {o : O} {v : V} {q : Sq}, RO B w H tg o v → sqO st.S o = some q → RSq B w H q v
  | .ol xs, v, q, ⟨a, h1, _, vs, h2, h3⟩, e => by
    cases e
    exact ⟨a, vs, h1, SqL.of h2, h3⟩
  | .od kvs, v, q, ⟨a, h1, _, h2⟩, e => by
    cases e
    exact ⟨a, h1, h2.r⟩
  | .u (.v (.list xs)), v, q, r, e => by
    cases e
    cases (show Rp w.F _ _ from r) with
    | lst h1 h2 => exact ⟨_, _, rfl, SqL.of (s.sub _ _ h1), h2⟩
  | .u (.v (.tuple xs)), v, q, r, e => by
    cases e
    cases (show Rp w.F _ _ from r) with
    | tup h1 hd h2 => exact ⟨_, _, rfl, .inl (.inr ⟨_, s.sub _ _ h1⟩), h2, _, s.sub _ _ h1, hd⟩
  | .u (.v (.str x)), v, q, r, e => by
    cases e
    cases (show Rp w.F _ _ from r)
    rfl
  | .u (.ref l), v, q, ⟨a, h1, h2⟩, e => by
    have e : (st.S[l]?).map cellSq = some q := e
    cases hc : st.S[l]? with
    | none => rw [hc] at e; cases e
    | some c =>
      rw [hc] at e
      cases e
      have := (s.cells l a c h1 hc).2
      cases c with
      | cl xs =>
        obtain ⟨vs, q1, q2⟩ := this
        exact ⟨a, vs, h2, SqL.of q1, q2⟩
      | cd kvs => exact ⟨a, h2, RDict.r this⟩
  | .u (.scr ns), v, q, ⟨a, h1, h2⟩, e => by
    cases e
    exact ⟨a, _, h1, SqL.sub s.sub h2, RpAll.ofInts ns⟩
  | .u (.fd kvs), v, q, ⟨a, h1, h2⟩, e => by
    cases e
    exact ⟨a, h1, h2.r s.sub⟩
  | .u (.v .none), _, _, _, e => by cases e
  | .u (.v (.bool _)), _, _, _, e => by cases e
  | .u (.v (.int _)), _, _, _, e => by cases e
  | .u (.v (.dict _)), _, _, _, e => by cases e
theorem look_ok (s : Sim B w σ H st) : ∀ {x : Hn} {v : V} {q : Sq}, RH B w σ x v → look st x = some q → RSq B w H q v
  | .sl i, v, q, r, e => by
    have e : (match st.r[i]? with
      | some (some o) => sqO st.S o
      | _ => none) = some q := e
    split at e
    · rename_i o ho
      obtain ⟨v', h1, h2⟩ := s.r.slot i o ho
      rw [show σ[i]? = some (some v) from r] at h1
      cases h1
      exact sqO_ok s.h h2 e
    · cases e
  | .u x, v, q, r, e => sqO_ok (tg := .tmp) (o := .u x) s.h r e

def rN (i : Nat) : EvR := fun st => match st.r[i]? with
  | some (some _) => some (.sl i, st)
  | _ => none
def rU (f : EvU) : EvR := fun st => (f st).map fun p => (.u p.1, p.2)
theorem r_nm {i : Nat} (h : PE X e (tVar i)) : PE X e (tR B (rN i)) := peW h fun σ H Q ⟨w, st, x, st', s, hf, q⟩ => by
  unfold rN at hf
  split at hf
  · rename_i o ho
    cases hf
    obtain ⟨v, h1, h2⟩ := s.r.slot i o ho
    exact ⟨v, h1, q w v H (Le.rfl' w) s h1⟩
  · cases hf
theorem r_u {f : EvU} (h : PE X e (tU B f)) : PE X e (tR B (rU f)) := peW h fun σ H Q ⟨w, st, x, st', s, hf, q⟩ => by
  unfold rU at hf
  cases e1 : f st with
  | none => rw [e1] at hf; cases hf
  | some p =>
    rw [e1] at hf
    cases hf
    exact ⟨w, st, p.1, p.2, s, e1, fun w' v H' l s' r => q w' v H' l s' r⟩

/-! ### a[i] -/
theorem RpAll.at' {F : Hp} {ds : List PyData} {vs : List V} {i : Int} {d : PyData} (r : RpAll F ds vs) (h : atI ds i = some d) : ∃ v, atI vs i = some v ∧ Rp F d v := by
  unfold atI at h ⊢
  rw [← r.length]
  cases e : ixN ds.length i with
  | none => rw [e] at h; cases h
  | some j =>
    rw [e] at h
    exact r.get h
def gIx (st : Stt) (x : Hn) (y : U) : Option U := match look st x, y with
  | some (.l xs), .v (.int i) => (atI xs i).map .v
  | some (.t xs), .v (.int i) => (atI xs i).map .v
  | some (.s z), .v (.int i) => if lineOk z.length then (atI z.cps.toList i).map fun c => .v (.str ⟨#[c]⟩) else none
  | some (.d kvs), .v k => if kOk kvs k then dget kvs k else none
  | _, _ => none
def rIxD (B : Bs) : R2 := fun x y H Q => ∃ (w : Wd) (kvs : List (PyData × U)) (k : PyData) (z : U) (a : Addr), x = .ref a ∧ (∀ a o, w.F a = some o → H a = some o) ∧ RDictR B w H a kvs ∧ Rp w.F k y ∧ kOk kvs k = true ∧
  dget kvs k = some z ∧ ∀ v, RU B w z v → Q v H
theorem dict_is {pins : List (Addr × Obj)} {s : Shared} (I : Inv X pins σ H s) {kvs : List (PyData × U)} (h : RDictR (bsX X) w H a kvs) : ∃ o, s.heap.get? a = some o ∧ o.ExactDict := by
  rcases h with ⟨ys, e, r⟩ | ⟨n, xs, e, r⟩
  · obtain ⟨_, _, vs, _, o, _, _, h1, h2, _⟩ := dk_rd I.hok e
    exact ⟨o, h1, h2⟩
  · obtain ⟨⟨_, _, _, _, o, _, _, h1, h2, _⟩, _⟩ := e.ok I.hok
    exact ⟨o, h1, h2⟩
theorem ix_dict (hu : X.A.units + 64 < cLine) : IxR X (rIxD (bsX X)) := by
  intro value slice pins s σ H x y v u Q I rx ry h hs
  obtain ⟨w, kvs, k, z, a, rfl, hF, hd, rk, ho, hz, q⟩ := h
  cases rx
  obtain ⟨o, h1, h2⟩ := dict_is I hd
  exact tail_any (T := "dict") ⟨o, h1, h2.1⟩ PySem.F.slot_dict_getitem.lookup (dd_get hu I hF hd ho hz rk ry fun vz wz s' I' r1 r2 => ⟨vz, H, I', r2, q vz r1⟩) hs
def rIxAll (B : Bs) (K : PySem.W.Frag) : R2 := fun x y H Q => rIxL K x y H Q ∨ rIxT K x y H Q ∨ rIxS x y H Q ∨ rIxD B x y H Q
theorem gIx_ok {s : Sim (bsX X) w σ H st} {x : Hn} {y z : U} {vx vy : V} {Q : VK} (e : gIx st x y = some z) (rx : RH (bsX X) w σ x vx) (ry : RU (bsX X) w y vy)
    (q : ∀ v, RU (bsX X) w z v → Q v H) : rIxAll (bsX X) X.K vx vy H Q := by
  unfold gIx at e
  split at e
  · rename_i xs i hl
    obtain ⟨d, hd, rfl⟩ := Option.map_eq_some_iff.mp e
    obtain ⟨a, vs, rfl, hS, hr⟩ := look_ok s rx hl
    cases ry
    obtain ⟨v, hv, rv⟩ := hr.at' hd
    exact .inl ⟨_, _, _, v, rfl, rfl, hS, hv, q v rv⟩
  · rename_i xs i hl
    obtain ⟨d, hd, rfl⟩ := Option.map_eq_some_iff.mp e
    obtain ⟨a, vs, rfl, hS, hr, _⟩ := look_ok s rx hl
    cases ry
    obtain ⟨v, hv, rv⟩ := hr.at' hd
    exact .inr (.inl ⟨_, _, _, v, rfl, rfl, hS, hv, q v rv⟩)
  · rename_i xs i hl
    split at e
    · rename_i hz
      obtain ⟨c, hd, rfl⟩ := Option.map_eq_some_iff.mp e
      have : vx = .str xs := look_ok s rx hl
      subst this
      cases ry
      exact .inr (.inr (.inl ⟨_, _, c, rfl, rfl, lineOk_le hz, hd, q _ (.str _)⟩))
    · cases e
  · rename_i kvs k hl
    split at e
    · rename_i ho
      obtain ⟨a, rfl, hr⟩ := look_ok s rx hl
      exact .inr (.inr (.inr ⟨w, kvs, k, z, a, rfl, s.h.sub, hr, ry, ho, e, q⟩))
    · cases e
  · cases e
def idx (f : EvR) (g : EvU) : EvU := fun st => (f st).bind fun p => (g p.2).bind fun q => (gIx q.2 p.1 q.1).map fun z => (z, q.2)
theorem e_ix {k : Nat} (hr : Room k X.A) {f : EvR} {g : EvU} (ha : PE X e1 (tR (bsX X) f)) (hb : PE X e2 (tU (bsX X) g)) (hs : PlainIx e2) : PE X (.Subscript e1 e2 pos) (tU (bsX X) (idx f g)) :=
  peW (pe_ix (ix_list.or (ix_tup.or (ix_str.or (ix_dict hr.units)))) ha hb hs) fun σ H Q ⟨w, st, x, st', s, hf, q⟩ => by
    unfold idx at hf
    cases ea : f st with
    | none => rw [ea] at hf; cases hf
    | some p =>
      rw [ea, Option.bind_some] at hf
      cases eb : g p.2 with
      | none => rw [eb] at hf; cases hf
      | some p2 =>
        rw [eb, Option.bind_some] at hf
        cases ez : gIx p2.2 p.1 p2.1 with
        | none => rw [ez] at hf; cases hf
        | some z =>
          rw [ez] at hf
          cases hf
          refine ⟨w, st, p.1, p.2, s, ea, fun w1 v1 H1 l1 s1 r1 => ⟨w1, p.2, p2.1, p2.2, s1, eb, fun w2 v2 H2 l2 s2 r2 => ?_⟩⟩
          exact gIx_ok (s := s2) ez (r1.mono l2) r2 fun v rv => q w2 v H2 (l1.trans l2) s2 rv

/-! ### x in c -/
def rInT (K : PySem.W.Frag) : R2 := fun x y H Q => ∃ d ds, Dp K H x d ∧ Dp K H y (.tuple ds) ∧ SeqAt.shaped d = true ∧ SeqAt.shaped (.tuple ds) = true ∧ Q (.bl (ds.any fun z => PyData.eqv z d)) H
def rNotInT (K : PySem.W.Frag) : R2 := fun x y H Q => ∃ d ds, Dp K H x d ∧ Dp K H y (.tuple ds) ∧ SeqAt.shaped d = true ∧ SeqAt.shaped (.tuple ds) = true ∧ Q (.bl (!ds.any fun z => PyData.eqv z d)) H
theorem op_inT (hu : X.A.units + 65 < cLine) : OpR X (compareOp .In) (rInT X.K) := by
  rintro pins s σ H x y v u Q I rx ry ⟨d, ds, hd, he, sd, se, q⟩
  obtain ⟨as, r1⟩ := Dp.reads I d x v hd rx
  obtain ⟨bs, r2⟩ := Dp.reads I (.tuple ds) y u he ry
  have lay : PyData.canLayAll0 ds = true := SeqAt.canLay_of_shaped se
  exact SeqAt.in_tuple_reads r2 r1 lay (SeqAt.canLay_of_shaped sd) (room_in_shaped sd hu) ⟨.bl _, H, I, rfl, q⟩
theorem op_notInT (hu : X.A.units + 65 < cLine) : OpR X (compareOp .NotIn) (rNotInT X.K) := by
  rintro pins s σ H x y v u Q I rx ry ⟨d, ds, hd, he, sd, se, q⟩
  obtain ⟨as, r1⟩ := Dp.reads I d x v hd rx
  obtain ⟨bs, r2⟩ := Dp.reads I (.tuple ds) y u he ry
  have lay : PyData.canLayAll0 ds = true := SeqAt.canLay_of_shaped se
  exact SeqAt.notIn_tuple_reads r2 r1 lay (SeqAt.canLay_of_shaped sd) (room_in_shaped sd hu) ⟨.bl _, H, I, rfl, q⟩
def rInDict (B : Bs) (neg : Bool) : R2 := fun x y H Q => ∃ (w : Wd) (kvs : List (PyData × U)) (k : PyData) (a : Addr), y = .ref a ∧ (∀ a o, w.F a = some o → H a = some o) ∧ RDictR B w H a kvs ∧ Rp w.F k x ∧ kOk kvs k = true ∧
  Q (.bl (if neg then !(dget kvs k).isSome else (dget kvs k).isSome)) H
theorem op_inDict (hu : X.A.units + 64 < cLine) : OpR X (compareOp .In) (rInDict (bsX X) false) := by
  rintro pins s σ H x y v u Q I rx ry ⟨w, kvs, k, a, rfl, hF, hd, rk, ho, q⟩
  cases ry
  exact dd_in hu I hF hd ho rk rx fun s' I' => ⟨.bl _, H, I', rfl, q⟩
theorem op_notInDict (hu : X.A.units + 64 < cLine) : OpR X (compareOp .NotIn) (rInDict (bsX X) true) := by
  rintro pins s σ H x y v u Q I rx ry ⟨w, kvs, k, a, rfl, hF, hd, rk, ho, q⟩
  cases ry
  exact dd_notIn hu I hF hd ho rk rx fun s' I' => ⟨.bl _, H, I', rfl, q⟩
def gIn (neg : Bool) (st : Stt) (x : U) (c : Hn) : Option U := match look st c, x with
  | some (.l xs), .v d => if SeqAt.shaped d && SeqAt.shaped (.list xs) then some (.v (.bool (if neg then !xs.any fun z => PyData.eqv z d else xs.any fun z => PyData.eqv z d))) else none
  | some (.t xs), .v d => if SeqAt.shaped d && SeqAt.shaped (.tuple xs) then some (.v (.bool (if neg then !xs.any fun z => PyData.eqv z d else xs.any fun z => PyData.eqv z d))) else none
  | some (.d kvs), .v k => if kOk kvs k then some (.v (.bool (if neg then !(dget kvs k).isSome else (dget kvs k).isSome))) else none
  | _, _ => none
def isIn (neg : Bool) (f : EvU) (g : EvR) : EvU := fun st => (f st).bind fun p => (g p.2).bind fun q => (gIn neg q.2 p.1 q.1).map fun z => (z, q.2)
theorem RpAll.dpL {F H : Hp} {K : PySem.W.Frag} {a : Addr} {ds : List PyData} {vs : List V} (h : ∀ a o, F a = some o → H a = some o) (q : SqL K H a vs) (r : RpAll F ds vs) : Dp K H (.ref a) (.list ds) := .lst q (r.dp h)
theorem RpAll.dpT {F H : Hp} {K : PySem.W.Frag} {a : Addr} {ds : List PyData} {vs : List V} (h : ∀ a o, F a = some o → H a = some o) (q : SqT K H a vs) (r : RpAll F ds vs) : Dp K H (.ref a) (.tuple ds) := .tup q (r.dp h)
theorem gIn_ok {neg : Bool} {s : Sim (bsX X) w σ H st} {x z : U} {c : Hn} {vx vc : V} {Q : VK} (e : gIn neg st x c = some z) (rx : RU (bsX X) w x vx) (rc : RH (bsX X) w σ c vc)
    (q : ∀ v, RU (bsX X) w z v → Q v H) : (if neg then rNotInD X.K vx vc H Q ∨ rNotInT X.K vx vc H Q ∨ rInDict (bsX X) true vx vc H Q else rInD X.K vx vc H Q ∨ rInT X.K vx vc H Q ∨ rInDict (bsX X) false vx vc H Q) := by
  unfold gIn at e
  split at e
  · rename_i xs d hl
    split at e
    · rename_i hs
      obtain ⟨a, vs, rfl, hS, hr⟩ := look_ok s rc hl
      have h2 := Bool.and_eq_true_iff.mp hs
      cases e
      cases neg with
      | true =>
        simp only [if_true] at q ⊢
        exact .inl ⟨d, xs, Rp.dp s.h.sub rx, hr.dpL s.h.sub hS, h2.1, h2.2, q _ (.bl _)⟩
      | false =>
        simp only [Bool.false_eq_true, if_false] at q ⊢
        exact .inl ⟨d, xs, Rp.dp s.h.sub rx, hr.dpL s.h.sub hS, h2.1, h2.2, q _ (.bl _)⟩
    · cases e
  · rename_i xs d hl
    split at e
    · rename_i hs
      obtain ⟨a, vs, rfl, hS, hr, _⟩ := look_ok s rc hl
      have h2 := Bool.and_eq_true_iff.mp hs
      cases e
      cases neg with
      | true =>
        simp only [if_true] at q ⊢
        exact .inr (.inl ⟨d, xs, Rp.dp s.h.sub rx, hr.dpT s.h.sub hS, h2.1, h2.2, q _ (.bl _)⟩)
      | false =>
        simp only [Bool.false_eq_true, if_false] at q ⊢
        exact .inr (.inl ⟨d, xs, Rp.dp s.h.sub rx, hr.dpT s.h.sub hS, h2.1, h2.2, q _ (.bl _)⟩)
    · cases e
  · rename_i kvs k hl
    split at e
    · rename_i ho
      obtain ⟨a, rfl, hr⟩ := look_ok s rc hl
      cases e
      cases neg with
      | true =>
        simp only [if_true] at q ⊢
        exact .inr (.inr ⟨w, kvs, k, a, rfl, s.h.sub, hr, rx, ho, q _ (.bl _)⟩)
      | false =>
        simp only [Bool.false_eq_true, if_false] at q ⊢
        exact .inr (.inr ⟨w, kvs, k, a, rfl, s.h.sub, hr, rx, ho, q _ (.bl _)⟩)
    · cases e
  · cases e
theorem isIn_ok {neg : Bool} {f : EvU} {g : EvR} {σ : L2.St} {H : Hp} {Q : VK} (h : tU (bsX X) (isIn neg f g) σ H Q) :
    tU (bsX X) f σ H fun x H1 => tR (bsX X) g σ H1 fun y H2 => (if neg then rNotInD X.K x y H2 Q ∨ rNotInT X.K x y H2 Q ∨ rInDict (bsX X) true x y H2 Q else rInD X.K x y H2 Q ∨ rInT X.K x y H2 Q ∨ rInDict (bsX X) false x y H2 Q) := by
  obtain ⟨w, st, x, st', s, hf, q⟩ := h
  unfold isIn at hf
  cases ea : f st with
  | none => rw [ea] at hf; cases hf
  | some p =>
    rw [ea, Option.bind_some] at hf
    cases eb : g p.2 with
    | none => rw [eb] at hf; cases hf
    | some p2 =>
      rw [eb, Option.bind_some] at hf
      cases ez : gIn neg p2.2 p.1 p2.1 with
      | none => rw [ez] at hf; cases hf
      | some z =>
        rw [ez] at hf
        cases hf
        refine ⟨w, st, p.1, p.2, s, ea, fun w1 v1 H1 l1 s1 r1 => ⟨w1, p.2, p2.1, p2.2, s1, eb, fun w2 v2 H2 l2 s2 r2 => ?_⟩⟩
        exact gIn_ok (s := s2) ez (RU.mono l2 r1) r2 fun v rv => q w2 v H2 (l1.trans l2) s2 rv
theorem room65 {k : Nat} {A : Around} (hr : Room k A) : A.units + 65 < cLine := by have := hr.un; omega
theorem e_in {k : Nat} (hr : Room k X.A) {f : EvU} {g : EvR} (ha : PE X e1 (tU (bsX X) f)) (hb : PE X e2 (tR (bsX X) g)) (hm : behindInMarks .In e2 = false) : PE X (.Compare e1 [.In] [e2] pos) (tU (bsX X) (isIn false f g)) :=
  peW (pe_cmpR ((op_inD (room65 hr)).or ((op_inT (room65 hr)).or (op_inDict hr.units))) ha hb hm) fun σ H Q h => isIn_ok h
theorem e_notin {k : Nat} (hr : Room k X.A) {f : EvU} {g : EvR} (ha : PE X e1 (tU (bsX X) f)) (hb : PE X e2 (tR (bsX X) g)) (hm : behindInMarks .NotIn e2 = false) : PE X (.Compare e1 [.NotIn] [e2] pos) (tU (bsX X) (isIn true f g)) :=
  peW (pe_cmpR ((op_notInD (room65 hr)).or ((op_notInT (room65 hr)).or (op_notInDict hr.units))) ha hb hm) fun σ H Q h => isIn_ok h
theorem t_in {k : Nat} (hr : Room k X.A) {f : EvU} {g : EvR} (ha : PE X e1 (tU (bsX X) f)) (hb : PE X e2 (tR (bsX X) g)) (hm : behindInMarks .In e2 = false) : PT X (.Compare e1 [.In] [e2] pos) (tTs (bsX X) (tst (isIn false f g))) :=
  ptW (pt_cmpR ((op_inD (room65 hr)).or ((op_inT (room65 hr)).or (op_inDict hr.units))) ha hb hm) fun σ H Q h => isIn_ok (tst_ok h)
theorem t_notin {k : Nat} (hr : Room k X.A) {f : EvU} {g : EvR} (ha : PE X e1 (tU (bsX X) f)) (hb : PE X e2 (tR (bsX X) g)) (hm : behindInMarks .NotIn e2 = false) : PT X (.Compare e1 [.NotIn] [e2] pos) (tTs (bsX X) (tst (isIn true f g))) :=
  ptW (pt_cmpR ((op_notInD (room65 hr)).or ((op_notInT (room65 hr)).or (op_notInDict hr.units))) ha hb hm) fun σ H Q h => isIn_ok (tst_ok h)

/-! ### slices -/
abbrev EvP := Stt → Option (Option Int × Stt)
def tP (B : Bs) (f : EvP) : TO := fun σ H Q => ∃ w st x st', Sim B w σ H st ∧ f st = some (x, st') ∧ ∀ w' H', Le w w' → Sim B w' σ H' st' → Q x H'
def pNo : EvP := fun st => some (none, st)
def pAt (f : EvU) : EvP := fun st => (f st).bind fun p => match p.1 with
  | .v (.int i) => some (some i, p.2)
  | _ => none
theorem poW {o : Option Expr} {t t' : TO} (h : PO X o t) (k : ∀ σ H Q, t' σ H Q → t σ H Q) : PO X o t' := ⟨fun pins s σ H Q I q => h.run pins s σ H Q I (k σ H Q q)⟩
theorem p_no : PO X none (tP B pNo) := poW po_none fun σ H Q ⟨w, st, x, st', s, hf, q⟩ => by
  cases hf
  exact q w H (Le.rfl' w) s
theorem p_at {f : EvU} (h : PE X e (tU B f)) : PO X (some e) (tP B (pAt f)) := poW (po_some h) fun σ H Q ⟨w, st, x, st', s, hf, q⟩ => by
  unfold pAt at hf
  cases ea : f st with
  | none => rw [ea] at hf; cases hf
  | some p =>
    rw [ea, Option.bind_some] at hf
    split at hf
    · rename_i i hi
      cases hf
      refine ⟨w, st, p.1, p.2, s, ea, fun w1 v1 H1 l1 s1 r1 => ?_⟩
      rw [hi] at r1
      cases (show Rp w1.F _ _ from r1)
      exact ⟨i, rfl, q w1 H1 l1 s1⟩
    · cases hf
def cutP (xs : List PyData) (lo hi : Option Int) : List PyData := (xs.drop (HT.sIx xs.length 0 lo)).take (HT.sIx xs.length xs.length hi - HT.sIx xs.length 0 lo)
theorem RpAll.cut {F : Hp} {ds : List PyData} {vs : List V} (r : RpAll F ds vs) (lo hi : Option Int) : RpAll F (cutP ds lo hi) (cutV vs lo hi) := by
  unfold cutP cutV
  rw [r.length]
  exact (r.drop _).take _
def gSl (st : Stt) (x : Hn) (lo hi : Option Int) : Option O := match look st x with
  | some (.l xs) => some (.ol (cutP xs lo hi))
  | some (.t xs) => some (.u (.v (.tuple (cutP xs lo hi))))
  | _ => none
theorem cutP_all {xs : List PyData} {lo hi : Option Int} (h : HT.sIx xs.length 0 lo = 0 ∧ HT.sIx xs.length xs.length hi = xs.length) : cutP xs lo hi = xs := by
  unfold cutP
  rw [h.1, h.2]
  simp
def slc (f : EvR) (lo hi : EvP) : EvO := fun st => (f st).bind fun p => (lo p.2).bind fun l => (hi l.2).bind fun h => (gSl h.2 p.1 l.1 h.1).map fun z => (z, h.2)
theorem e_sl {f : EvR} {lo hi : Option Expr} {fl fh : EvP} {p2 : Pos} (ha : PE X e1 (tR (bsX X) f)) (hl : PO X lo (tP (bsX X) fl)) (hh : PO X hi (tP (bsX X) fh)) : PE X (.Subscript e1 (.Slice lo hi none p2) pos) (tE (bsX X) (slc f fl fh)) :=
  peW (pe_slice (sl_list.or sl_tupF) ha hl hh) fun σ H Q ⟨w, st, x, st', s, hf, q⟩ => by
    unfold slc at hf
    cases ea : f st with
    | none => rw [ea] at hf; cases hf
    | some p =>
      rw [ea, Option.bind_some] at hf
      cases eb : fl p.2 with
      | none => rw [eb] at hf; cases hf
      | some p2 =>
        rw [eb, Option.bind_some] at hf
        cases ec : fh p2.2 with
        | none => rw [ec] at hf; cases hf
        | some p3 =>
          rw [ec, Option.bind_some] at hf
          refine ⟨w, st, p.1, p.2, s, ea, fun w1 v1 H1 l1 s1 r1 => ⟨w1, p.2, p2.1, p2.2, s1, eb, fun w2 H2 l2 s2 => ⟨w2, p2.2, p3.1, p3.2, s2, ec, fun w3 H3 l3 s3 => ?_⟩⟩⟩
          have r3 := r1.mono (l2.trans l3)
          have ll := l1.trans (l2.trans l3)
          unfold gSl at hf
          split at hf
          · rename_i xs hk
            cases hf
            obtain ⟨a, vs, rfl, hS, hr⟩ := look_ok s3 r3 hk
            refine .inl ⟨a, vs, rfl, hS, fun p hp => ?_⟩
            obtain ⟨w', l, s', r'⟩ := s3.newLst hp (hr.cut p2.1 p3.1)
            exact q w' _ _ (ll.trans l) s' r'
          · rename_i xs hk
            cases hf
            obtain ⟨a, vs, rfl, hS, hr, _⟩ := look_ok s3 r3 hk
            refine .inr ⟨a, vs, rfl, hS, fun hw => ?_, fun hw p ob hp hdn => ?_⟩
            · have hw' := hw
              rw [← hr.length] at hw'
              rw [cutP_all hw'] at q
              -- the tuple itself
              cases hx : p.1 with
              | sl i =>
                rw [hx] at r3 hk
                unfold look at hk
                simp only at hk
                split at hk
                · rename_i o ho
                  obtain ⟨v', h1, h2⟩ := s3.r.slot i o ho
                  rw [show σ[i]? = some (some (V.ref a)) from r3] at h1
                  cases h1
                  cases o with
                  | ol _ => cases hk
                  | od _ => cases hk
                  | u y =>
                    have hy : y = .v (.tuple xs) := by
                      cases y with
                      | v d => cases d <;> first | (cases hk; rfl) | cases hk
                      | ref l =>
                        have hk : (p3.2.S[l]?).map cellSq = some (.t xs) := hk
                        cases hc : p3.2.S[l]? with
                        | none => rw [hc] at hk; cases hk
                        | some c => rw [hc] at hk; cases c <;> cases hk
                      | scr ns => cases hk
                      | fd kvs => cases hk
                    subst hy
                    exact q w3 _ H3 ll s3 h2
                · cases hk
              | u y =>
                rw [hx] at r3 hk
                have hk : sqO p3.2.S (.u y) = some (.t xs) := hk
                have hy : y = .v (.tuple xs) := by
                  cases y with
                  | v d => cases d <;> first | (cases hk; rfl) | cases hk
                  | ref l =>
                    have hk : (p3.2.S[l]?).map cellSq = some (.t xs) := hk
                    cases hc : p3.2.S[l]? with
                    | none => rw [hc] at hk; cases hk
                    | some c => rw [hc] at hk; cases c <;> cases hk
                  | scr ns => cases hk
                  | fd kvs => cases hk
                subst hy
                exact q w3 _ H3 ll s3 r3
            · obtain ⟨w', l, s', r'⟩ := s3.newTup hp hdn (hr.cut p2.1 p3.1)
              exact q w' _ _ (ll.trans l) s' r'
          · cases hf
def rev (f : EvR) : EvO := fun st => (f st).bind fun p => match look p.2 p.1 with
  | some (.l xs) => some (.ol xs.reverse, p.2)
  | _ => none
theorem e_rev {f : EvR} {k : Nat} {p1 p2 p3 : Pos} (ha : PE X e1 (tR (bsX X) f)) : PE X (.Subscript e1 (.Slice none none (some (.UnaryOp .USub (.Constant (.int 1) k p1) p2)) p3) pos) (tE (bsX X) (rev f)) :=
  peW (pe_revL ha) fun σ H Q ⟨w, st, x, st', s, hf, q⟩ => by
    unfold rev at hf
    cases ea : f st with
    | none => rw [ea] at hf; cases hf
    | some p =>
      rw [ea, Option.bind_some] at hf
      split at hf
      · rename_i xs hk
        cases hf
        refine ⟨w, st, p.1, p.2, s, ea, fun w1 v1 H1 l1 s1 r1 => ?_⟩
        obtain ⟨a, vs, rfl, hS, hr⟩ := look_ok s1 r1 hk
        refine ⟨a, vs, rfl, hS, fun p hp => ?_⟩
        obtain ⟨w', l, s', r'⟩ := s1.newLst hp hr.reverse
        exact q w' _ _ (l1.trans l) s' r'
      · cases hf
end
end MP

namespace MP
open PySem PySem.Spec PyProof.Rows L2

section
variable {X : Cx} {e e1 e2 e3 o : Expr} {es : List Expr} {pos apos : Pos} {B : Bs} {w w' : Wd} {σ : L2.St} {H : Hp} {st : Stt} {a : Addr} {name : Str}

/-! ## methods of built-in types, by what the receiver is -/
def IsTy (X : Cx) (T : String) (ty : V → Hp → Prop) : Prop := ∀ (pins : List (Addr × Obj)) (s : Shared) (σ : L2.St) (H : Hp) (x : V) (v : Value), Inv X pins σ H s → L2.RelV x v → ty x H →
  s.TypeIs v T ∧ ∀ a, v = .ref a → ∃ ob, s.heap.get? a = some ob ∧ ob.dict = none
structure MtF (X : Cx) (name : Str) (ty : String → V → Hp → Prop) (r : String → V → List V → Hp → VK → Prop) : Prop where
  ok : ∀ T x H, ty T x H → ∃ id, PlainAttrs T ∧ Slot T name id ∧ typeOf (.builtin id) = pure (.type "method_descriptor") ∧ MtR X id (r T) ∧ IsTy X T (ty T)
def tM (ty : String → V → Hp → Prop) (r : String → V → List V → Hp → VK → Prop) (to : TE) (t : TA) : TE := fun σ H Q => to σ H fun x H1 => ∃ T, ty T x H1 ∧ t σ H1 fun xs H2 => r T x xs H2 Q
/-- o.m(..) -/
theorem pe_m {ty : String → V → Hp → Prop} {r : String → V → List V → Hp → VK → Prop} {to : TE} {t : TA} (hm : MtF X name ty r) (ho : PE X o to) (ha : PA X (e :: es) t)
    (hb : attributeBase o name X.env (eval o X.env) = eval o X.env := by rfl)
    (hf : ((backTo pos (starEach (e :: es) X.env)).all (fun x => !x.1) && (backToKw pos (keywordEach [] X.env)).all (fun x => x.1.isSome)
      && decide ((e :: es).length + ([] : List Keyword).length + (if ([] : List Keyword).isEmpty then 0 else 1) < 30)) = true := by rfl)
    (hl : (apos.endLine == pos.line) = true := by rfl) (hs : starEach (e :: es) X.env = (false, eval e X.env) :: starEach es X.env := by rfl) (hp : (backTo pos (starEach es X.env)).any (·.1) = false := by rfl) :
    PE X (.Call (.Attribute o name apos) (e :: es) [] pos) (tM ty r to t) :=
  ⟨fun pins s σ H Q I h => by
    refine wpAny_Call_method_late hb hf hl rfl (thn (ho.run pins s σ H _ I h) fun v s1 hh => ?_)
    obtain ⟨x, H1, I1, r1, T, tx, q1⟩ := hh
    obtain ⟨id, pa, sl, td, mr, ity⟩ := hm.ok T x H1 tx
    obtain ⟨h1, h2⟩ := ity pins s1 σ H1 x v I1 r1 tx
    have args := ha.run pos pins s1 σ H1 _ I1 q1
    rw [hs] at args ⊢
    refine ⟨T, id, pa, sl, td, h1, h2, Calls.callWith_builtin ?_ (Calls.evalArgs_plain (thn args fun us s2 hh => ?_))⟩
    · show (false || (backTo pos (starEach es X.env)).any (·.1)) = false
      rw [hp]
      rfl
    · obtain ⟨vs, H2, I2, r2, q2⟩ := hh
      exact mr pins s2 σ H2 x vs v us Q I2 r1 r2 q2⟩
theorem pe_m0 {ty : String → V → Hp → Prop} {r : String → V → List V → Hp → VK → Prop} {to : TE} (hm : MtF X name ty r) (ho : PE X o to)
    (hb : attributeBase o name X.env (eval o X.env) = eval o X.env := by rfl) (hl : (apos.endLine == pos.line) = true := by rfl) :
    PE X (.Call (.Attribute o name apos) [] [] pos) (fun σ H Q => to σ H fun x H1 => ∃ T, ty T x H1 ∧ r T x [] H1 Q) :=
  ⟨fun pins s σ H Q I h => by
    refine wpAny_Call_method0_late hb hl (thn (ho.run pins s σ H _ I h) fun v s1 hh => ?_)
    obtain ⟨x, H1, I1, r1, T, tx, q1⟩ := hh
    obtain ⟨id, pa, sl, td, mr, ity⟩ := hm.ok T x H1 tx
    obtain ⟨h1, h2⟩ := ity pins s1 σ H1 x v I1 r1 tx
    exact ⟨T, id, pa, sl, td, h1, h2, Calls.callWith_builtin rfl (PySem.evalArgs_none (mr pins s1 σ H1 x [] v [] Q I1 r1 .nil q1))⟩⟩
/-- one type alone -/
def only (T : String) (ty : V → Hp → Prop) : String → V → Hp → Prop := fun T' x H => T' = T ∧ ty x H
theorem isOnly {T : String} {ty : V → Hp → Prop} (h : IsTy X T ty) : IsTy X T (only T ty T) := fun pins s σ H x v I r t => h pins s σ H x v I r t.2
theorem mtOne {T id : String} {ty : V → Hp → Prop} {r : V → List V → Hp → VK → Prop} (pl : PlainAttrs T) (pa : Slot T name id) (td : typeOf (.builtin id) = pure (.type "method_descriptor")) (mr : MtR X id r) (it : IsTy X T ty) :
    MtF X name (only T ty) (fun _ => r) := ⟨fun T' x H t => by
  obtain ⟨rfl, _⟩ := t
  exact ⟨id, pl, pa, td, mr, isOnly it⟩⟩
def tyL (K : PySem.W.Frag) : V → Hp → Prop := fun x H => ∃ p xs, x = .ref p ∧ SqL K H p xs
def tyT : V → Hp → Prop := fun x H => ∃ p ob xs, x = .ref p ∧ H p = some (.frz ob (.tup xs)) ∧ ob.dict = none
def tyD (B : Bs) : V → Hp → Prop := fun x H => ∃ p w kvs, x = .ref p ∧ RDictR B w H p kvs
def tyS : V → Hp → Prop := fun x H => ∃ z, x = .str z
theorem isL : IsTy X "list" (tyL X.K) := by
  rintro pins s σ H x v I r ⟨p, xs, rfl, hq⟩
  cases r
  obtain ⟨us, _, pl, _⟩ := I.list hq
  refine ⟨pl.isList.typeIs, fun b e => ?_⟩
  cases e
  obtain ⟨ob, n, g, c, d, _⟩ := pl
  exact ⟨ob, g, d⟩
theorem isT : IsTy X "tuple" tyT := by
  rintro pins s σ H x v I r ⟨p, ob, xs, rfl, hq, hd⟩
  cases r
  obtain ⟨g, z, us, _, o2, g2, c2, _⟩ := I.hok p _ hq
  rw [g] at g2
  cases g2
  exact ⟨⟨ob, g, c2⟩, fun b e => by cases e; exact ⟨ob, g, hd⟩⟩
theorem isD : IsTy X "dict" (tyD (bsX X)) := by
  rintro pins s σ H x v I r ⟨p, w, kvs, rfl, hq⟩
  cases r
  obtain ⟨ob, h1, h2⟩ := dict_is I hq
  exact ⟨⟨ob, h1, h2.1⟩, fun b e => by cases e; exact ⟨ob, h1, h2.2.1⟩⟩
theorem isS : IsTy X "str" tyS := by
  rintro pins s σ H x v I r ⟨z, rfl⟩
  obtain ⟨t, rfl⟩ := r
  exact ⟨typeIs_str s z t, fun _ e => nomatch e⟩

/-! ### a list's content is changed -/
/-- the handle's list, and the same with another content -/
def getL (st : Stt) : Hn → Option (List PyData)
  | .sl i => match st.r[i]? with
    | some (some (.ol xs)) => some xs
    | some (some (.u (.ref l))) => match st.S[l]? with
      | some (.cl xs) => some xs
      | _ => none
    | _ => none
  | .u (.ref l) => match st.S[l]? with
    | some (.cl xs) => some xs
    | _ => none
  | _ => none
def putL (st : Stt) (xs : List PyData) : Hn → Stt
  | .sl i => match st.r[i]? with
    | some (some (.ol _)) => { st with r := st.r.set i (some (.ol xs)) }
    | some (some (.u (.ref l))) => { st with S := st.S.set l (.cl xs) }
    | _ => st
  | .u (.ref l) => { st with S := st.S.set l (.cl xs) }
  | _ => st
theorem set_self {w : Wd} {a : Addr} {tg : Tag} (h : w.T a = tg) : w.set a tg = w := by
  have : (fun b => if b = a then tg else w.T b) = w.T := by
    funext b
    split
    · rename_i q; rw [q, h]
    · rfl
  unfold Wd.set
  rw [this]
theorem Sim.slotC (s : Sim B w σ H st) {i : Nat} {o o' : O} {u : HO} (ho : st.r[i]? = some (some o)) (hv : σ[i]? = some (some (.ref a))) (ht : w.T a = .slot i) (r' : RO B w (upd H a u) (.slot i) o' (.ref a)) :
    Sim B w σ (upd H a u) { st with r := st.r.set i (some o') } := by
  have f : Free1 w H a := .inr (.inl (by rw [ht]; trivial))
  have h1 := s.h.put (tg := .slot i) (o := u) f trivial fun _ z => nomatch z
  rw [set_self ht] at h1
  refine ⟨h1, s.r.re (a := a) (Le.rfl' w) (fun b hb => ⟨upd_ne hb, rfl⟩) hv (fun _ => ht) r'⟩
theorem Sim.cellC (s : Sim B w σ H st) {l : Nat} {c : Cell} {u : HO} (hm : w.M[l]? = some a) (hl : l < st.S.length) (hc : RC B w (upd H a u) a c) : Sim B w σ (upd H a u) { st with S := st.S.set l c } := by
  have ta := (s.h.cells l a _ hm (List.getElem?_eq_getElem hl)).1
  refine ⟨s.h.cell hm hl hc, s.r.mono (Le.rfl' w) fun b e => ⟨upd_ne ?_, rfl⟩⟩
  rintro rfl
  rw [ta] at e
  exact e
theorem cellL (s : Sim B w σ H st) {l : Nat} {v : V} {xs : List PyData} (r : RU B w (.ref l) v) (h : (match st.S[l]? with
      | some (.cl xs) => some xs
      | _ => none) = some xs) :
    ∃ a vs, v = .ref a ∧ H a = some (.lst vs) ∧ RpAll w.F xs vs ∧ ∀ xs' vs', RpAll w.F xs' vs' → Sim B w σ (upd H a (.lst vs')) { st with S := st.S.set l (.cl xs') } := by
  obtain ⟨a, hm, rfl⟩ := r
  split at h
  · rename_i ys hc
    cases h
    have hl := (List.getElem?_eq_some_iff.mp hc).1
    obtain ⟨t, vs, q1, q2⟩ := s.h.cells l a _ hm hc
    exact ⟨a, vs, rfl, q1, q2, fun xs' vs' r' => s.cellC hm hl ⟨vs', upd_same, r'⟩⟩
  · cases h
/-- the handle's list stands at an address; it may be replaced there -/
theorem getL_ok (s : Sim B w σ H st) : ∀ {x : Hn} {v : V} {xs : List PyData}, RH B w σ x v → getL st x = some xs →
    ∃ a vs, v = .ref a ∧ H a = some (.lst vs) ∧ RpAll w.F xs vs ∧ ∀ xs' vs', RpAll w.F xs' vs' → Sim B w σ (upd H a (.lst vs')) (putL st xs' x)
  | .sl i, v, xs, r, h => by
    have h : (match st.r[i]? with
      | some (some (.ol xs)) => some xs
      | some (some (.u (.ref l))) => (match st.S[l]? with
        | some (.cl xs) => some xs
        | _ => none)
      | _ => none) = some xs := h
    have r : σ[i]? = some (some v) := r
    split at h
    · rename_i ys ho
      cases h
      obtain ⟨v', h1, a, rfl, t, vs, q1, q2⟩ := s.r.slot i _ ho
      rw [r] at h1
      cases h1
      refine ⟨a, vs, rfl, q1, q2, fun xs' vs' r' => ?_⟩
      have := s.slotC (o' := .ol xs') (u := .lst vs') ho r t ⟨a, rfl, t, vs', upd_same, r'⟩
      unfold putL
      simp only [ho]
      exact this
    · rename_i l ho
      obtain ⟨v', h1, h2⟩ := s.r.slot i _ ho
      rw [r] at h1
      cases h1
      obtain ⟨a, vs, e, q1, q2, q3⟩ := cellL s h2 h
      refine ⟨a, vs, e, q1, q2, fun xs' vs' r' => ?_⟩
      unfold putL
      simp only [ho]
      exact q3 xs' vs' r'
    · cases h
  | .u (.ref l), v, xs, r, h => by
    obtain ⟨a, vs, e, q1, q2, q3⟩ := cellL s r h
    exact ⟨a, vs, e, q1, q2, fun xs' vs' r' => q3 xs' vs' r'⟩
  | .u (.v _), _, _, _, h => by cases h
  | .u (.scr _), _, _, _, h => by cases h
  | .u (.fd _), _, _, _, h => by cases h

/-- a method that changes a list and answers -/
def lmt (k : List PyData → List U → Option (U × List PyData)) (f : EvR) (g : EvL) : EvU := fun st => (f st).bind fun p => (getL p.2 p.1).bind fun _ => (g p.2).bind fun q =>
  (getL q.2 p.1).bind fun xs => (k xs q.1).map fun z => (z.1, putL q.2 z.2 p.1)
def lmt0 (k : List PyData → List U → Option (U × List PyData)) (f : EvR) : EvU := fun st => (f st).bind fun p => (getL p.2 p.1).bind fun xs => (k xs []).map fun z => (z.1, putL p.2 z.2 p.1)
/-- the rule r of a list's method does what k says -/
def KMt (B : Bs) (r : V → List V → Hp → VK → Prop) (k : List PyData → List U → Option (U × List PyData)) : Prop :=
  ∀ (xs xs' : List PyData) (ys : List U) (z : U), k xs ys = some (z, xs') → ∀ (w : Wd) (H : Hp) (S : List Cell) (a : Addr) (vs us : List V) (Q : VK), SimH B w H S → H a = some (.lst vs) → RpAll w.F xs vs → RUs B w ys us →
    (∀ v vs', RU B w z v → RpAll w.F xs' vs' → Q v (upd H a (.lst vs'))) → r (.ref a) us H Q
section
variable {r : V → List V → Hp → VK → Prop} {k : List PyData → List U → Option (U × List PyData)} {f : EvR} {g : EvL}
theorem lmt_ok (hk : KMt (bsX X) r k) {σ : L2.St} {H : Hp} {Q : VK} (h : tU (bsX X) (lmt k f g) σ H Q) : tM (only "list" (tyL X.K)) (fun _ => r) (tR (bsX X) f) (tL (bsX X) g) σ H Q := by
  obtain ⟨w, st, x, st', s, hf, q⟩ := h
  unfold lmt at hf
  cases ea : f st with
  | none => rw [ea] at hf; cases hf
  | some p =>
    rw [ea, Option.bind_some] at hf
    cases el : getL p.2 p.1 with
    | none => rw [el] at hf; cases hf
    | some ys =>
      rw [el, Option.bind_some] at hf
      cases eb : g p.2 with
      | none => rw [eb] at hf; cases hf
      | some p2 =>
        rw [eb, Option.bind_some] at hf
        cases el2 : getL p2.2 p.1 with
        | none => rw [el2] at hf; cases hf
        | some xs =>
          rw [el2, Option.bind_some] at hf
          cases ek : k xs p2.1 with
          | none => rw [ek] at hf; cases hf
          | some z =>
            rw [ek] at hf
            cases hf
            refine ⟨w, st, p.1, p.2, s, ea, fun w1 v1 H1 l1 s1 r1 => ⟨"list", ⟨rfl, ?_⟩, w1, p.2, p2.1, p2.2, s1, eb, fun w2 vs H2 l2 s2 r2 => ?_⟩⟩
            · obtain ⟨a, vs, e, q1, _, _⟩ := getL_ok s1 r1 el
              exact ⟨a, vs, e, SqL.of q1⟩
            · obtain ⟨a, us, rfl, q1, q2, q3⟩ := getL_ok s2 (r1.mono l2) el2
              exact hk xs z.2 p2.1 z.1 ek w2 H2 p2.2.S a us vs Q s2.h q1 q2 r2 fun v vs' rz rv => q w2 v _ (l1.trans l2) (q3 _ _ rv) rz
theorem e_lmt {id : String} (pa : Slot "list" name id) (td : typeOf (.builtin id) = pure (.type "method_descriptor")) (mr : MtR X id r) (hk : KMt (bsX X) r k) (ho : PE X o (tR (bsX X) f)) (ha : PA X (e :: es) (tL (bsX X) g))
    (hb : attributeBase o name X.env (eval o X.env) = eval o X.env := by rfl)
    (hf : ((backTo pos (starEach (e :: es) X.env)).all (fun x => !x.1) && (backToKw pos (keywordEach [] X.env)).all (fun x => x.1.isSome)
      && decide ((e :: es).length + ([] : List Keyword).length + (if ([] : List Keyword).isEmpty then 0 else 1) < 30)) = true := by rfl)
    (hl : (apos.endLine == pos.line) = true := by rfl) (hs : starEach (e :: es) X.env = (false, eval e X.env) :: starEach es X.env := by rfl) (hp : (backTo pos (starEach es X.env)).any (·.1) = false := by rfl) :
    PE X (.Call (.Attribute o name apos) (e :: es) [] pos) (tU (bsX X) (lmt k f g)) :=
  peW (pe_m (mtOne PySem.F.plainAttrs_list pa td mr isL) ho ha hb hf hl hs hp) fun _ _ _ h => lmt_ok hk h
theorem e_lmt0 {id : String} (pa : Slot "list" name id) (td : typeOf (.builtin id) = pure (.type "method_descriptor")) (mr : MtR X id r) (hk : KMt (bsX X) r k) (ho : PE X o (tR (bsX X) f))
    (hb : attributeBase o name X.env (eval o X.env) = eval o X.env := by rfl) (hl : (apos.endLine == pos.line) = true := by rfl) :
    PE X (.Call (.Attribute o name apos) [] [] pos) (tU (bsX X) (lmt0 k f)) :=
  peW (pe_m0 (mtOne PySem.F.plainAttrs_list pa td mr isL) ho hb hl) fun σ H Q ⟨w, st, x, st', s, hf, q⟩ => by
    unfold lmt0 at hf
    cases ea : f st with
    | none => rw [ea] at hf; cases hf
    | some p =>
      rw [ea, Option.bind_some] at hf
      cases el : getL p.2 p.1 with
      | none => rw [el] at hf; cases hf
      | some xs =>
        rw [el, Option.bind_some] at hf
        cases ek : k xs [] with
        | none => rw [ek] at hf; cases hf
        | some z =>
          rw [ek] at hf
          cases hf
          refine ⟨w, st, p.1, p.2, s, ea, fun w1 v1 H1 l1 s1 r1 => ?_⟩
          obtain ⟨a, us, rfl, q1, q2, q3⟩ := getL_ok s1 r1 el
          exact ⟨"list", ⟨rfl, a, us, rfl, SqL.of q1⟩, hk xs z.2 [] z.1 ek w1 H1 p.2.S a us [] Q s1.h q1 q2 .nil fun v vs' rz rv => q w1 v _ l1 (q3 _ _ rv) rz⟩
end
def kAppend : List PyData → List U → Option (U × List PyData)
  | xs, [.v d] => if lineOk (xs.length + 1) then some (.v .none, xs ++ [d]) else none
  | _, _ => none
theorem km_append : KMt B rAppend kAppend := by
  intro xs xs' ys z e w H S a vs us Q s h1 h2 h3 q
  unfold kAppend at e
  split at e
  · split at e
    · rename_i hl
      cases e
      cases h3 with
      | cons r t =>
        cases t
        have := lineOk_le hl
        rw [h2.length] at this
        exact ⟨a, vs, _, rfl, rfl, h1, by omega, q _ _ .non (h2.app (.cons r .nil))⟩
    · cases e
  · cases e
def kExtend : List PyData → List U → Option (U × List PyData)
  | xs, [.v (.list ys)] => if lineOk (xs.length + ys.length) then some (.v .none, xs ++ ys) else none
  | _, _ => none
theorem km_extend : KMt B rExtend kExtend := by
  intro xs xs' ys z e w H S a vs us Q s h1 h2 h3 q
  unfold kExtend at e
  split at e
  · split at e
    · rename_i hl
      cases e
      cases h3 with
      | cons r t =>
        cases t
        cases (show Rp w.F _ _ from r) with
        | lst hz hr =>
          have := lineOk_le hl
          rw [h2.length, hr.length] at this
          exact ⟨a, _, vs, _, rfl, rfl, h1, s.sub _ _ hz, this, q _ _ .non (h2.app hr)⟩
    · cases e
  · cases e
theorem RpAll.dropLast {F : Hp} {ds : List PyData} {vs : List V} (h : RpAll F ds vs) : RpAll F ds.dropLast vs.dropLast := by
  rw [List.dropLast_eq_take, List.dropLast_eq_take, h.length]
  exact h.take _
def kPop : List PyData → List U → Option (U × List PyData)
  | xs, [] => (xs[xs.length - 1]?).map fun d => (.v d, xs.dropLast)
  | _, _ => none
theorem km_pop : KMt B rPop kPop := by
  intro xs xs' ys z e w H S a vs us Q s h1 h2 h3 q
  unfold kPop at e
  split at e
  · obtain ⟨d, hd, e⟩ := Option.map_eq_some_iff.mp e
    cases e
    cases h3
    obtain ⟨v, hv, rv⟩ := h2.get hd
    rw [h2.length] at hv
    exact ⟨a, vs, v, rfl, rfl, h1, hv, q _ _ rv h2.dropLast⟩
  · cases e
def kPopAt : List PyData → List U → Option (U × List PyData)
  | xs, [.v (.int i)] => (ixN xs.length i).bind fun j => (xs[j]?).bind fun d => if lineOk xs.length then some (.v d, xs.eraseIdx j) else none
  | _, _ => none
theorem km_popAt : KMt B rPopAt kPopAt := by
  intro xs xs' ys z e w H S a vs us Q s h1 h2 h3 q
  unfold kPopAt at e
  split at e
  · rename_i i
    cases ej : ixN xs.length i with
    | none => rw [ej] at e; cases e
    | some j =>
      rw [ej, Option.bind_some] at e
      cases ed : xs[j]? with
      | none => rw [ed] at e; cases e
      | some d =>
        rw [ed, Option.bind_some] at e
        split at e
        · rename_i hl
          cases e
          cases h3 with
          | cons r t =>
            cases t
            cases (show Rp w.F _ _ from r)
            obtain ⟨v, hv, rv⟩ := h2.get ed
            obtain ⟨e1, e2, e3, e4⟩ := ixN_seq ej
            have l1 := lineOk_le hl
            rw [line_eq] at l1
            rw [h2.length] at e1
            exact ⟨a, vs, i, j, v, rfl, rfl, h1, by omega, by omega, e1, hv, q _ _ rv (h2.erase j)⟩
        · cases e
  · cases e
def kInsert : List PyData → List U → Option (U × List PyData)
  | xs, [.v (.int i), .v d] => if lineOk (xs.length + 1) && decide (0 ≤ i) && decide (i.natAbs < 9223372036854775808) then some (.v .none, xs.take i.toNat ++ [d] ++ xs.drop i.toNat) else none
  | _, _ => none
def rInsert : V → List V → Hp → VK → Prop := fun x vs H Q => ∃ (l : Addr) (xs : List V) (i : Int) (y : V), x = .ref l ∧ vs = [.int i, y] ∧ H l = some (.lst xs) ∧ xs.length < sizeLine ∧ 0 ≤ i ∧ i < 2 ^ 63 ∧
    Q .non (upd H l (.lst (xs.take i.toNat ++ [y] ++ xs.drop i.toNat)))
theorem km_insert : KMt B rInsert kInsert := by
  intro xs xs' ys z e w H S a vs us Q s h1 h2 h3 q
  unfold kInsert at e
  split at e
  · split at e
    · rename_i i d hl
      cases e
      simp only [Bool.and_eq_true, decide_eq_true_eq] at hl
      obtain ⟨⟨c1, c2⟩, c3⟩ := hl
      have c3 : i < 2 ^ 63 := by omega
      cases h3 with
      | cons r t =>
        cases t with
        | cons r' t =>
          cases t
          cases (show Rp w.F _ _ from r)
          have := lineOk_le c1
          rw [h2.length] at this
          exact ⟨a, vs, i, _, rfl, rfl, h1, by omega, c2, c3, q _ _ .non (((h2.take _).app (.cons r' .nil)).app (h2.drop _))⟩
    · cases e
  · cases e

/-! ### methods that change nothing -/
def Sq.ty : Sq → String
  | .l _ => "list"
  | .t _ => "tuple"
  | .d _ => "dict"
  | .s _ => "str"
/-- the answer of a method, by what the receiver holds and by the arguments -/
def mth (k : Sq → List U → Option U) (f : EvR) (g : EvL) : EvU := fun st => (f st).bind fun p => (look p.2 p.1).bind fun c0 => (g p.2).bind fun q => (look q.2 p.1).bind fun c =>
  if c.ty = c0.ty then (k c q.1).map fun z => (z, q.2) else none
def tyA (B : Bs) : String → V → Hp → Prop := fun T x H => (T = "list" ∧ tyL B.K x H) ∨ (T = "tuple" ∧ tyT x H) ∨ (T = "dict" ∧ tyD B x H) ∨ (T = "str" ∧ tyS x H)
/-- by the receiver's kind: what is asked, what is handed on -/
def rMth (B : Bs) (k : Sq → List U → Option U) : String → V → List V → Hp → VK → Prop := fun T x xs H Q => ∃ (w : Wd) (c : Sq) (ys : List U) (z : U), c.ty = T ∧ (∀ a o, w.F a = some o → H a = some o) ∧ RSq B w H c x ∧ RUs B w ys xs ∧ k c ys = some z ∧ ∀ v, RU B w z v → Q v H
theorem tyA_of {c : Sq} {v : V} (h : RSq (bsX X) w H c v) : tyA (bsX X) c.ty v H := by
  cases c with
  | l xs => obtain ⟨a, vs, rfl, q, _⟩ := h; exact .inl ⟨rfl, a, vs, rfl, q⟩
  | t xs => obtain ⟨a, vs, rfl, _, _, ob, q, d⟩ := h; exact .inr (.inl ⟨rfl, a, ob, vs, rfl, q, d⟩)
  | d kvs => obtain ⟨a, rfl, q⟩ := h; exact .inr (.inr (.inl ⟨rfl, a, w, kvs, rfl, q⟩))
  | s x => exact .inr (.inr (.inr ⟨rfl, x, h⟩))
theorem isA {T : String} : IsTy X T (tyA (bsX X) T) := by
  intro pins s σ H x v I r t
  rcases t with ⟨rfl, t⟩ | ⟨rfl, t⟩ | ⟨rfl, t⟩ | ⟨rfl, t⟩
  · exact isL pins s σ H x v I r t
  · exact isT pins s σ H x v I r t
  · exact isD pins s σ H x v I r t
  · exact isS pins s σ H x v I r t
theorem mth_ok {k : Sq → List U → Option U} {f : EvR} {g : EvL} {ty : String → V → Hp → Prop} (ht : ∀ T x H, tyA (bsX X) T x H → ∀ c ys z, k c ys = some z → c.ty = T → ty T x H) {σ : L2.St} {H : Hp} {Q : VK} (h : tU (bsX X) (mth k f g) σ H Q) :
    tM ty (rMth (bsX X) k) (tR (bsX X) f) (tL (bsX X) g) σ H Q := by
  obtain ⟨w, st, x, st', s, hf, q⟩ := h
  unfold mth at hf
  cases ea : f st with
  | none => rw [ea] at hf; cases hf
  | some p =>
    rw [ea, Option.bind_some] at hf
    cases el : look p.2 p.1 with
    | none => rw [el] at hf; cases hf
    | some c0 =>
      rw [el, Option.bind_some] at hf
      cases eb : g p.2 with
      | none => rw [eb] at hf; cases hf
      | some p2 =>
        rw [eb, Option.bind_some] at hf
        cases el2 : look p2.2 p.1 with
        | none => rw [el2] at hf; cases hf
        | some c =>
          rw [el2, Option.bind_some] at hf
          split at hf
          · rename_i hc
            cases ek : k c p2.1 with
            | none => rw [ek] at hf; cases hf
            | some z =>
              rw [ek] at hf
              cases hf
              refine ⟨w, st, p.1, p.2, s, ea, fun w1 v1 H1 l1 s1 r1 => ⟨c0.ty, ht _ _ _ (tyA_of (look_ok s1 r1 el)) c p2.1 x ek hc, w1, p.2, p2.1, p2.2, s1, eb, fun w2 vs H2 l2 s2 r2 => ?_⟩⟩
              exact ⟨w2, c, p2.1, x, hc, s2.h.sub, look_ok s2 (r1.mono l2) el2, r2, ek, fun v rv => q w2 v H2 (l1.trans l2) s2 rv⟩
          · cases hf
/-- a method's rule for each kind that k knows -/
structure KM (X : Cx) (name : Str) (k : Sq → List U → Option U) : Prop where
  ok : ∀ (c : Sq) (ys : List U) (z : U), k c ys = some z → ∃ id, PlainAttrs c.ty ∧ Slot c.ty name id ∧ typeOf (.builtin id) = pure (.type "method_descriptor") ∧ MtR X id (rMth (bsX X) k c.ty)
theorem e_mth {k : Sq → List U → Option U} {f : EvR} {g : EvL} (hk : KM X name k) (ho : PE X o (tR (bsX X) f)) (ha : PA X (e :: es) (tL (bsX X) g))
    (hb : attributeBase o name X.env (eval o X.env) = eval o X.env := by rfl)
    (hf : ((backTo pos (starEach (e :: es) X.env)).all (fun x => !x.1) && (backToKw pos (keywordEach [] X.env)).all (fun x => x.1.isSome)
      && decide ((e :: es).length + ([] : List Keyword).length + (if ([] : List Keyword).isEmpty then 0 else 1) < 30)) = true := by rfl)
    (hl : (apos.endLine == pos.line) = true := by rfl) (hs : starEach (e :: es) X.env = (false, eval e X.env) :: starEach es X.env := by rfl) (hp : (backTo pos (starEach es X.env)).any (·.1) = false := by rfl) :
    PE X (.Call (.Attribute o name apos) (e :: es) [] pos) (tU (bsX X) (mth k f g)) := by
  have hm : MtF X name (fun T x H => tyA (bsX X) T x H ∧ ∃ c ys z, k c ys = some z ∧ c.ty = T) (rMth (bsX X) k) := ⟨fun T x H t => by
    obtain ⟨t, c, ys, z, hz, rfl⟩ := t
    obtain ⟨id, h1, h2, h3, h4⟩ := hk.ok c ys z hz
    exact ⟨id, h1, h2, h3, h4, fun pins s σ H x v I r t => isA pins s σ H x v I r t.1⟩⟩
  exact peW (pe_m hm ho ha hb hf hl hs hp) fun σ H Q h => mth_ok (fun T x H t c ys z hz hc => ⟨t, c, ys, z, hz, hc⟩) h
end

/-! ### count, index -/
section
variable {X : Cx}
def kCount : Sq → List U → Option U
  | .l xs, [.v d] => if SeqAt.shaped (.list xs) && SeqAt.shaped d then some (.v (.int (xs.countP fun z => PyData.eqv z d : Nat))) else none
  | .t xs, [.v d] => if SeqAt.shaped (.tuple xs) && SeqAt.shaped d then some (.v (.int (xs.countP fun z => PyData.eqv z d : Nat))) else none
  | _, _ => none
theorem count_read {h : Heap} {us : List Value} {ds : List PyData} {d : PyData} (m : us.map (SeqAt.readOf h) = ds) : (us.countP fun u => PyData.eqv (SeqAt.readOf h u) d) = ds.countP fun z => PyData.eqv z d := by
  rw [← m, List.countP_map]
  rfl
theorem km_count {k : Nat} (hr : Room k X.A) : KM X "count" kCount := by
  refine ⟨fun c ys z h => ?_⟩
  unfold kCount at h
  split at h
  · refine ⟨"list.count", PySem.F.plainAttrs_list, PySem.F.slot_list_count, PySem.F.type_list_count, ?_⟩
    rintro pins s σ H x xs v us Q I rx rxs ⟨w, c, ys, z, hc, hF, hS, hy, hk, q⟩
    unfold kCount at hk
    split at hk
    · split at hk
      · rename_i ds d hsh
        cases hk
        simp only [Bool.and_eq_true] at hsh
        obtain ⟨a, vs, rfl, hq, hr2⟩ := hS
        cases rx
        cases hy with
        | cons r1 t =>
          cases t
          cases rxs with
          | cons ru t =>
            cases t
            obtain ⟨its, rv, ⟨⟨cls, dd, data, sls⟩, n, ho, hc, hdn, hdt⟩, hlen⟩ := I.list hq
            simp only at hc hdt
            subst hc hdt
            obtain ⟨as, h4⟩ := Dp.readsAll I ds _ its (hr2.dp hF) rv
            obtain ⟨bs, h5⟩ := Dp.reads I d _ _ (Rp.dp hF r1) ru
            have hxs : PyData.canLayAll0 ds = true := SeqAt.canLay_of_shaped hsh.1
            have m := SeqAt.readsAll_map ds its as hxs h4
            refine call_meets PySem.F.slot_list_count ⟨_, ho, rfl⟩ PySem.F.entry_list_count (PySem.F.args_list_count_2 _ _) (SeqAt.list_countAt a its.toArray n dd sls _ (fun u => PyData.eqv (SeqAt.readOf s.heap u) d))
              ⟨ho, SeqAt.items_eqAt (vs := its.toArray) (by simpa using h4) h5 hxs (SeqAt.canLay_of_shaped hsh.2) (room_in_shaped hsh.2 (room65 hr)), ?_⟩
            exact ⟨.int (ds.countP fun z => PyData.eqv z d : Nat), H, I.tok _, ⟨_, by rw [← count_read m]⟩, q _ (.int _)⟩
      · cases hk
    · exact absurd hc (by simp [Sq.ty])
    · cases hk
  · refine ⟨"tuple.count", PySem.F.plainAttrs_tuple, PySem.F.slot_tuple_count, PySem.F.type_tuple_count, ?_⟩
    rintro pins s σ H x xs v us Q I rx rxs ⟨w, c, ys, z, hc, hF, hS, hy, hk, q⟩
    unfold kCount at hk
    split at hk
    · exact absurd hc (by simp [Sq.ty])
    · split at hk
      · rename_i ds d hsh
        cases hk
        simp only [Bool.and_eq_true] at hsh
        obtain ⟨a, vs, rfl, hq, hr2, _⟩ := hS
        cases rx
        cases hy with
        | cons r1 t =>
          cases t
          cases rxs with
          | cons ru t =>
            cases t
            obtain ⟨its, rv, ⟨⟨cls, dd, data, sls⟩, ho, hc, n, hdt⟩, hlen⟩ := I.tuple hq
            simp only at hc hdt
            subst hc hdt
            obtain ⟨as, h4⟩ := Dp.readsAll I ds _ its (hr2.dp hF) rv
            obtain ⟨bs, h5⟩ := Dp.reads I d _ _ (Rp.dp hF r1) ru
            have hxs : PyData.canLayAll0 ds = true := SeqAt.canLay_of_shaped hsh.1
            have m := SeqAt.readsAll_map ds its as hxs h4
            refine call_meets PySem.F.slot_tuple_count ⟨_, ho, rfl⟩ PySem.F.entry_tuple_count (PySem.F.args_tuple_count_2 _ _) (SeqAt.tuple_countAt a its.toArray n dd sls _ (fun u => PyData.eqv (SeqAt.readOf s.heap u) d))
              ⟨ho, SeqAt.items_eqAt (vs := its.toArray) (by simpa using h4) h5 hxs (SeqAt.canLay_of_shaped hsh.2) (room_in_shaped hsh.2 (room65 hr)), ?_⟩
            exact ⟨.int (ds.countP fun z => PyData.eqv z d : Nat), H, I.tok _, ⟨_, by rw [← count_read m]⟩, q _ (.int _)⟩
      · cases hk
    · cases hk
  · cases h
/-- the first place of an equal item -/
def kIndex : Sq → List U → Option U
  | .t xs, [.v d] => if SeqAt.shaped (.tuple xs) && SeqAt.shaped d && xs.any (fun z => PyData.eqv z d) then some (.v (.int (xs.findIdx fun z => PyData.eqv z d : Nat))) else none
  | _, _ => none
theorem km_index {k : Nat} (hr : Room k X.A) : KM X "index" kIndex := by
  refine ⟨fun c ys z h => ?_⟩
  unfold kIndex at h
  split at h
  · refine ⟨"tuple.index", PySem.F.plainAttrs_tuple, PySem.F.slot_tuple_index, PySem.F.type_tuple_index, ?_⟩
    rintro pins s σ H x xs v us Q I rx rxs ⟨w, c, ys, z, hc, hF, hS, hy, hk, q⟩
    unfold kIndex at hk
    split at hk
    · split at hk
      · rename_i ds d hsh
        cases hk
        simp only [Bool.and_eq_true] at hsh
        obtain ⟨⟨hs1, hs2⟩, hs3⟩ := hsh
        obtain ⟨a, vs, rfl, hq, hr2, _⟩ := hS
        cases rx
        cases hy with
        | cons r1 t =>
          cases t
          cases rxs with
          | cons ru t =>
            cases t
            obtain ⟨its, rv, ⟨⟨cls, dd, data, sls⟩, ho, hc, n, hdt⟩, hlen⟩ := I.tuple hq
            simp only at hc hdt
            subst hc hdt
            obtain ⟨as, h4⟩ := Dp.readsAll I ds _ its (hr2.dp hF) rv
            obtain ⟨bs, h5⟩ := Dp.reads I d _ _ (Rp.dp hF r1) ru
            have hxs : PyData.canLayAll0 ds = true := SeqAt.canLay_of_shaped hs1
            have m := SeqAt.readsAll_map ds its as hxs h4
            have hn : its.length = ds.length := by rw [← m, List.length_map]
            have hany : ∃ x ∈ ds, (PyData.eqv x d) = true := by simpa using hs3
            have hj : (ds.findIdx fun z => PyData.eqv z d) < ds.length := List.findIdx_lt_length.mpr hany
            have at_ : ∀ (i : Nat) (h1 : i < its.toArray.size) (h2 : i < ds.length), SeqAt.readOf s.heap its.toArray[i] = ds[i] := fun i h1 h2 => by
              have e1 : (its.map (SeqAt.readOf s.heap))[i]? = ds[i]? := by rw [m]
              have h1' : i < its.length := by simpa using h1
              rw [List.getElem?_map, List.getElem?_eq_getElem h1', List.getElem?_eq_getElem h2] at e1
              simpa using e1
            have hj' : (ds.findIdx fun z => PyData.eqv z d) < its.toArray.size := by rw [List.size_toArray, hn]; exact hj
            refine call_meets PySem.F.slot_tuple_index ⟨_, ho, rfl⟩ PySem.F.entry_tuple_index (PySem.F.args_tuple_index_2 _ _) (TI.tuple_indexAt a its.toArray n dd sls _ (fun u => PyData.eqv (SeqAt.readOf s.heap u) d) _ hj' ?_ ?_)
              ⟨ho, SeqAt.items_eqAt (vs := its.toArray) (by simpa using h4) h5 hxs (SeqAt.canLay_of_shaped hs2) (room_in_shaped hs2 (room65 hr)), ?_⟩
            · show PyData.eqv (SeqAt.readOf s.heap its.toArray[_]) d = true
              rw [at_ _ hj' hj]
              exact List.findIdx_getElem (w := hj)
            · intro i hi hlt
              have hi' : i < ds.length := by omega
              show PyData.eqv (SeqAt.readOf s.heap its.toArray[i]) d = false
              rw [at_ _ hi hi']
              have := List.not_of_lt_findIdx hlt
              simpa using this
            · exact ⟨.int _, H, I.tok _, ⟨_, rfl⟩, q _ (.int _)⟩
      · cases hk
    · cases hk
  · cases h

/-! ### dict.get, dict.setdefault -/
def kGet : Sq → List U → Option U
  | .d kvs, [.v k] => if kOk kvs k then some ((dget kvs k).getD (.v .none)) else none
  | .d kvs, [.v k, x] => if kOk kvs k then some ((dget kvs k).getD x) else none
  | _, _ => none
theorem dd_getD {B : Bs} {w : Wd} {H : Hp} {σ : L2.St} {pins : List (Addr × Obj)} {s : Shared} {a : Addr} {A : Around} {E : Value → Shared → Prop} {Q : Value → Shared → Prop} {kvs : List (PyData × U)} {k : PyData} {x : U} {vk vx : V} {u z : Value} (hu : A.units + 64 < cLine) (I : Inv X pins σ H s) (hs : ∀ a o, w.F a = some o → H a = some o) (h : RDictR (bsX X) w H a kvs)
    (ho : kOk kvs k = true) (rk : Rp w.F k vk) (ru : RelV vk u) (rx : RU (bsX X) w x vx) (rz : RelV vx z) (q : ∀ v w' s', Inv X pins σ H s' → RU (bsX X) w ((dget kvs k).getD x) v → RelV v w' → Q w' s') :
    wpAny (model X.prog X.w) A (call (.builtin "dict.get") [.ref a, u, z]) Q E s := by
  rcases kOk_cases ho with ⟨t, tk, c, e⟩ | ⟨⟨c, e⟩, fk⟩
  · obtain ⟨ys, dd, tt, hd, hz⟩ := d_open I hs tk h
    obtain ⟨b, rfl⟩ := tup_ref t rk
    cases ru
    refine call_meetsIn PySem.F.slot_dict_get dd.typeIs PySem.F.entry_dict_get (PySem.F.args_dict_get_3 _ _ _) (meetsH_dict_get_default (nestedKind X.prog X.w) a b hd z)
      ⟨by show A.in1.units + 8 < cLine; show A.units + 1 + 8 < cLine; omega, c, ys, key_is I hs rk e, dd, ?_⟩
    rcases tt_find e tt with ⟨z1, z2⟩ | ⟨x', v, p, z1, z2, r1, r2⟩
    · rw [z1] at q
      rw [z2]
      exact q vx z _ (I.tok _) rx rz
    · rw [z1] at q
      rw [z2]
      exact q v p.2 _ (I.tok _) r1 r2
  · obtain ⟨ys, e1, kk⟩ := flat_form fk h
    obtain rfl := key_ref e rk
    refine d_get2 (by omega) I (.inl ⟨_, c, e1, rfl, rfl⟩ : DGet _ _ _ (valV _ c)) ru rz fun w' s' I' r' => ?_
    rcases kk_find e kk with ⟨z1, z2⟩ | ⟨x', v, z1, z2, r1⟩
    · rw [z1] at q
      rw [z2] at r'
      exact q vx w' s' I' rx r'
    · rw [z1] at q
      rw [z2] at r'
      exact q v w' s' I' r1 r'
theorem dd_get1 {w : Wd} {H : Hp} {σ : L2.St} {pins : List (Addr × Obj)} {s : Shared} {a : Addr} {A : Around} {E : Value → Shared → Prop} {Q : Value → Shared → Prop} {kvs : List (PyData × U)} {k : PyData} {vk : V} {u : Value} (hu : A.units + 64 < cLine) (I : Inv X pins σ H s) (hs : ∀ a o, w.F a = some o → H a = some o) (h : RDictR (bsX X) w H a kvs)
    (ho : kOk kvs k = true) (rk : Rp w.F k vk) (ru : RelV vk u) (q : ∀ v w' s', Inv X pins σ H s' → RU (bsX X) w ((dget kvs k).getD (.v .none)) v → RelV v w' → Q w' s') :
    wpAny (model X.prog X.w) A (call (.builtin "dict.get") [.ref a, u]) Q E s := by
  rcases kOk_cases ho with ⟨t, tk, c, e⟩ | ⟨⟨c, e⟩, fk⟩
  · obtain ⟨ys, dd, tt, hd, hz⟩ := d_open I hs tk h
    obtain ⟨b, rfl⟩ := tup_ref t rk
    cases ru
    refine call_meetsIn PySem.F.slot_dict_get dd.typeIs PySem.F.entry_dict_get (PySem.F.args_dict_get_2 _ _) (meetsH_dict_get (nestedKind X.prog X.w) a b hd)
      ⟨by show A.in1.units + 8 < cLine; show A.units + 1 + 8 < cLine; omega, c, ys, key_is I hs rk e, dd, ?_⟩
    rcases tt_find e tt with ⟨z1, z2⟩ | ⟨x', v, p, z1, z2, r1, r2⟩
    · rw [z1] at q
      rw [z2]
      exact q .non _ _ (I.tok _) .non rfl
    · rw [z1] at q
      rw [z2]
      exact q v p.2 _ (I.tok _) r1 r2
  · obtain ⟨ys, e1, kk⟩ := flat_form fk h
    obtain rfl := key_ref e rk
    refine d_get1 (by omega) I (.inl ⟨_, c, e1, rfl, rfl⟩ : DGet _ _ _ (valV _ c)) ru fun w' s' I' r' => ?_
    rcases kk_find e kk with ⟨z1, z2⟩ | ⟨x', v, z1, z2, r1⟩
    · rw [z1] at q
      rw [z2] at r'
      exact q .non w' s' I' .non r'
    · rw [z1] at q
      rw [z2] at r'
      exact q v w' s' I' r1 r'
theorem km_get {k : Nat} (hr : Room k X.A) : KM X "get" kGet := by
  refine ⟨fun c ys z h => ?_⟩
  have hd : c.ty = "dict" := by
    unfold kGet at h
    split at h <;> first | rfl | cases h
  rw [hd]
  refine ⟨"dict.get", PySem.F.plainAttrs_dict, PySem.F.slot_dict_get, PySem.F.type_dict_get, ?_⟩
  rintro pins s σ H x xs v us Q I rx rxs ⟨w, c, ys, z, hc, hF, hS, hy, hk, q⟩
  unfold kGet at hk
  split at hk
  · split at hk
    · rename_i kvs kk ho
      cases hk
      obtain ⟨a, rfl, hq⟩ := hS
      cases rx
      cases hy with
      | cons r1 t =>
        cases t
        cases rxs with
        | cons ru t =>
          cases t
          exact dd_get1 hr.units I hF hq ho r1 ru fun v w' s' I' r2 r3 => ⟨v, H, I', r3, q v r2⟩
    · cases hk
  · split at hk
    · rename_i kvs kk x' ho
      cases hk
      obtain ⟨a, rfl, hq⟩ := hS
      cases rx
      cases hy with
      | cons r1 t =>
        cases t with
        | cons r1' t =>
          cases t
          cases rxs with
          | cons ru t =>
            cases t with
            | cons ru' t =>
              cases t
              exact dd_getD (B := bsX X) hr.units I hF hq ho r1 ru r1' ru' fun v w' s' I' r2 r3 => ⟨v, H, I', r3, q v r2⟩
    · cases hk
  · cases hk
end
end MP

namespace MP
open PySem PySem.Calls PyProof.Rows PySem.SeqAt
open PySem.W (alike alikeAll dataLt dataLt_tuple firstLt_toks eqAt_alikeAll rcLt_alikeAll Looks EachIs)
set_option autoImplicit false

/-! ## a sort of tuples of which the first is empty -/
/-- all are tuples, the first is () -/
def EmptyFirst (ds : List PyData) : Prop := (∃ r, ds = .tuple [] :: r) ∧ ∀ d, d ∈ ds → ∃ xs, d = .tuple xs
section
variable {prog : Program} {w : World} {A : Around} {E : Value → Shared → Prop} {s : Shared}

theorem call_tuple_lt {Q : Value → Shared → Prop} {l b : Addr} {items items2 : Array Value} {e r : Nat → Bool} (hl : s.heap.IsTuple l items) (hb : s.heap.IsTuple b items2)
    (he : ∀ j (h1 : j < items.size) (h2 : j < items2.size), EqAt A.in1 s items[j] items2[j] (e j)) (hr : ∀ j (h1 : j < items.size) (h2 : j < items2.size), e j = false → RcLt A.in1 s items[j] items2[j] (r j))
    (h : Q (.bool (firstLt e r (decide (items.size < items2.size)) (List.range (min items.size items2.size)))) s) : wpAny (model prog w) A (call (.builtin "tuple.__lt__") [.ref l, .ref b]) Q E s := by
  obtain ⟨⟨cls, dd, data, sl⟩, ho, hc, n, hd⟩ := id hl
  obtain ⟨⟨cls2, dd2, data2, sl2⟩, ho2, hc2, n2, hd2⟩ := id hb
  simp only at hc hd hc2 hd2
  subst hc hd hc2 hd2
  exact call_meets F.slot_tuple_lt ⟨_, ho, rfl⟩ F.entry_tuple_lt (F.args_tuple_lt_2 _ _) (tuple_ltAt l b items items2 n n2 dd dd2 sl sl2 e r) ⟨ho, ho2, he, hr, h⟩

theorem oneLt_tups {xs ys : List PyData} {a b : Value} {as bs : List Addr} {Q : Bool → Shared → Prop} (ra : Reads s.heap a (.tuple xs) as) (rb : Reads s.heap b (.tuple ys) bs) (h : alike (.tuple xs) (.tuple ys) = true)
    (hu : A.units + min (PyData.tuple xs).depth (PyData.tuple ys).depth < cLine) (hq : Q (dataLt (.tuple xs) (.tuple ys)) s) : wpAny (model prog w) A (oneLt' true a b) Q E s := by
  have hal : alikeAll xs ys = true := by simpa [alike] using h
  cases ra with
  | @tuple l o vs n _ as₁ h1 h2 h3 h4 =>
    cases rb with
    | @tuple l' o' vs' n' _ bs₁ k1 k2 k3 k4 =>
      have n1 : vs.size = xs.length := by simpa using ReadsAll.length _ _ _ h4
      have n2 : vs'.size = ys.length := by simpa using ReadsAll.length _ _ _ k4
      rw [dataLt_tuple, ← firstLt_toks xs ys hal, ← n1, ← n2] at hq
      rw [oneLt'_eq]
      simp only [if_true]
      refine wpAny_bind (wpAny_cRoomFor (room_here hu) ?_)
      refine wpAny_bind (wpAny_callSpecialIfBound?_slot (T := "tuple") ⟨_, h1, h2⟩ F.slot_tuple_lt (call_tuple_lt (e := pairEq xs ys) (r := fun j => dataLt (xs.getD j .none) (ys.getD j .none)) ⟨_, h1, h2, _, h3⟩ ⟨_, k1, k2, _, k3⟩ (fun j j1 j2 => ?_) (fun j j1 j2 hj => ?_) ?_))
      · have := eqAt_alikeAll xs ys A.in1 s vs.toList vs'.toList _ _ h4 k4 hal (room_in hu) j (by simpa using j1) (by simpa using j2)
        simpa using this
      · have := rcLt_alikeAll xs ys A.in1 s vs.toList vs'.toList _ _ h4 k4 hal (room_in hu) j (by simpa using j1) (by simpa using j2) hj
        simpa using this
      · exact wpAny_truthy_bool hq
/-- the first items that a sort looks at -/
theorem firsts_tups {M : Model} : ∀ (vs : List Value) (ds : List PyData) {Q : List (Option Value) → Shared → Prop}, PySem.W.EachIs (fun v d => ∃ as, Reads s.heap v d as) vs ds → (∀ d, d ∈ ds → ∃ xs, d = .tuple xs) → (∀ os, (∀ r, ds = .tuple [] :: r → ∃ t, os = none :: t) → Q os s) → wpAny M A (vs.mapM firstOfTuple') Q E s
  | [], _, _, .nil, _, h => by
    rw [List.mapM_nil]
    exact wpAny_pure (h [] fun r z => nomatch z)
  | v :: vs, d :: ds, Q, .cons ⟨as, r⟩ t, hd, h => by
    rw [List.mapM_cons]
    refine wpAny_bind ?_
    obtain ⟨xs, rfl⟩ := hd _ (List.mem_cons_self ..)
    cases r with
    | @tuple a o its n _ as₁ h1 h2 h3 h4 =>
      rw [PySem.W.kas_first_eq]
      refine wpAny_bind (Looks.here (show Looks M s.heap (typeOf (.ref a)) o.cls from (Looks.ld h1).andThen .now) ?_)
      rw [h2, if_neg (by first | decide | simp)]
      refine wpAny_bind (listItems_at h1 h3 (wpAny_pure ?_))
      refine wpAny_bind (firsts_tups vs ds (Q := fun bs s' => wpAny M A (pure (its[0]? :: bs)) Q E s') t (fun d hm => hd d (List.mem_cons_of_mem _ hm)) fun os ho => wpAny_pure (h _ fun r z => ?_))
      injection z with z1 z2
      injection z1 with z1
      subst z1
      have n1 : its.size = 0 := by simpa using ReadsAll.length _ _ _ h4
      exact ⟨os, by simp [n1]⟩
theorem kind_tups {M : Model} {vs : List Value} {ds : List PyData} {Q : SortKind → Shared → Prop} (e : PySem.W.EachIs (fun v d => ∃ as, Reads s.heap v d as) vs ds) (hd : EmptyFirst ds) (h : Q oneType' s) : wpAny M A (keyKind' vs.toArray) Q E s := by
  obtain ⟨⟨r, hr⟩, ht⟩ := hd
  rw [keyKind'_eq, List.mapM_toArray, map_eq_pure_bind]
  refine wpAny_bind (wpAny_bind (firsts_tups vs ds e ht fun os ho => wpAny_pure ?_))
  obtain ⟨t, rfl⟩ := ho r hr
  rw [if_neg (by simp), if_neg (by simp)]
  rw [oneTypeOnly'_eq, List.mapM_toArray, map_eq_pure_bind]
  have look : ∀ v ∈ vs, Looks M s.heap (typeOf v) (Value.type "tuple") := fun v hv => by
    obtain ⟨d, hd, as, r⟩ := e.left v hv
    obtain ⟨xs, rfl⟩ := ht d hd
    exact PySem.W.looks_reads r
  refine wpAny_bind (wpAny_bind (wpAny_bind (PySem.W.kas_mapM (r := Value.type "tuple") _ (fun v hv Q' hq => (look v hv).here hq) (wpAny_pure ?_))))
  cases vs with
  | nil =>
    cases e
    cases hr
  | cons v vs' =>
    have hall : ((List.map (fun _ => Value.type "tuple") (v :: vs')).toArray.all fun x => x == Value.type "tuple") = true := by
      simp only [List.all_toArray, List.all_map, List.all_eq_true]
      intro _ _
      exact beq_self_eq_true _
    have h0 : (List.map (fun _ => Value.type "tuple") (v :: vs')).toArray[0]? = some (Value.type "tuple") := by simp
    rw [h0]
    simp only [hall, if_true]
    exact wpAny_pure (wpAny_pure h)
theorem sortsAt_first {vs : List Value} {ds : List PyData} (e : PySem.W.EachIs (fun v d => ∃ as, Reads s.heap v d as) vs ds) (hal : PySem.W.AllAlike ds) (hk : EmptyFirst ds) (hu : ∀ d, d ∈ ds → A.units + d.depth < cLine) : PySem.W.SortsAt prog w A s (PySem.W.dataKind s.heap ds) vs := by
  refine ⟨fun v hv => ?_, oneType', ?_, fun h2 E Q hq => kind_tups e hk hq⟩
  · obtain ⟨d, hd, as, r⟩ := e.left v hv
    exact ⟨_, PySem.W.dataKind_some hal hd r⟩
  · intro E x y a b Q ha hb hq
    obtain ⟨d, as, hd, ra, rfl⟩ := PySem.W.dataKind_inv ha
    obtain ⟨d', as', hd', rb, rfl⟩ := PySem.W.dataKind_inv hb
    rw [keyLt'_oneType]
    have hdd := hal d hd d' hd'
    have hroom : A.units + min d.depth d'.depth < cLine := Nat.lt_of_le_of_lt (Nat.add_le_add_left (Nat.min_le_left _ _) _) (hu d hd)
    obtain ⟨xs, rfl⟩ := hk.2 d hd
    obtain ⟨ys, rfl⟩ := hk.2 d' hd'
    exact oneLt_tups ra rb hdd hroom hq
def SortOk (ds : List PyData) : Prop := PySem.W.Sortable ds ∨ EmptyFirst ds
theorem sortsAt_any {vs : List Value} {ds : List PyData} (e : PySem.W.EachIs (fun v d => ∃ as, Reads s.heap v d as) vs ds) (hal : PySem.W.AllAlike ds) (hk : SortOk ds) (hu : ∀ d, d ∈ ds → A.units + d.depth < cLine) : PySem.W.SortsAt prog w A s (PySem.W.dataKind s.heap ds) vs :=
  hk.elim (fun hk => PySem.W.SortsAt.data e hal hk hu) fun hk => sortsAt_first e hal hk hu

open PySem.W (dataLe dataKind AllAlike sortingHeap sortingHeap_old sortVals_data sortVals_length list_sort_vals each_keepBut each_map bound_map) in
/-- x.sort() of data, also where the first is the empty tuple -/
theorem list_sort_any {β : Type} {R : Value → β → Prop} {enc : β → PyData} {vs : List Value} {bs : List β} {a : Addr} {n : Nat} {Q : Value → Shared → Prop} (ho : s.heap.get? a = some (seqObj "list" vs.toArray n)) (e : EachIs R vs bs) (er : EachIs (fun v b => ∃ as, Reads s.heap v (enc b) as ∧ a ∉ as) vs bs)
    (hal : AllAlike (bs.map enc)) (hk : SortOk (bs.map enc)) (hL : bs.length ≤ sizeLine)
    (hu : ∀ b, b ∈ bs → A.units + 1 + (enc b).depth < cLine) (h : ∀ out, out.length = bs.length → EachIs R out (bs.mergeSort (dataLe false enc)) → Q .none { s with heap := sortedHeap s.heap a vs (List.toArray out) }) :
    wpAny (model prog w) A (call (.builtin "list.sort") [.ref a]) Q E s := by
  have er' : EachIs (fun v b => ∃ as, Reads (sortingHeap s.heap a vs) v (enc b) as) vs bs := each_keepBut (h' := sortingHeap s.heap a vs) (fun _ _ hb q => sortingHeap_old hb q) (fun o q => by rw [ho] at q; rw [← Option.some.inj q]) hal er
  refine wpAny_call_entry slot_list_sort ⟨_, ho, rfl⟩ entry_list_sort (list_sort_vals (κ := dataKind (sortingHeap s.heap a vs) (bs.map enc)) ho (sortsAt_any (s := { s with heap := sortingHeap s.heap a vs }) (each_map (R := fun v d => ∃ as, Reads (sortingHeap s.heap a vs) v d as) enc er') hal hk (bound_map hu)) (by rw [e.length]; exact hL) ⟨.none, rfl, ?_⟩) (args_list_sort _)
  exact h _ (by rw [sortVals_length false rfl]; exact e.length) (sortVals_data false e er' hal)
end
end MP

namespace MP
open PySem PySem.Spec PyProof.Rows L2

section
variable {X : Cx} {e e1 e2 e3 o : Expr} {es : List Expr} {pos apos p : Pos} {B : Bs} {w w' : Wd} {σ : L2.St} {H : Hp} {st : Stt} {a : Addr} {name : Str}

/-! ## built-in functions -/
/-- a result as a value: nothing is bound any more -/
def Rets (B : Bs) (w : Wd) (σ : L2.St) (st : Stt) (o : O) (Q : VK) : Prop := ∀ w' v H', Le w w' → Sim B w' σ H' st → RO B w' H' .tmp o v → Q v H'
/-- the rule r does what k says of plain values -/
def KC (B : Bs) (r : List V → Hp → VK → Prop) (k : List U → Option O) : Prop := ∀ (xs : List U) (o : O), k xs = some o → ∀ (w : Wd) (σ : L2.St) (H : Hp) (st : Stt) (vs : List V) (Q : VK), Sim B w σ H st → RUs B w xs vs → Rets B w σ st o Q → r vs H Q
/-- .. of what a receiver holds -/
def KR (B : Bs) (r : List V → Hp → VK → Prop) (k : Sq → Option O) : Prop := ∀ (c : Sq) (o : O), k c = some o → ∀ (w : Wd) (σ : L2.St) (H : Hp) (st : Stt) (v : V) (Q : VK), Sim B w σ H st → RSq B w H c v → Rets B w σ st o Q → r [v] H Q
def bl (k : List U → Option O) (g : EvL) : EvO := fun st => (g st).bind fun p => (k p.1).map fun o => (o, p.2)
def b1 (k : Sq → Option O) (f : EvR) : EvO := fun st => (f st).bind fun p => (look p.2 p.1).bind fun c => (k c).map fun o => (o, p.2)
theorem bl_ok {r : List V → Hp → VK → Prop} {k : List U → Option O} {g : EvL} (hk : KC B r k) {σ : L2.St} {H : Hp} {Q : VK} (h : tE B (bl k g) σ H Q) : tCB r (tL B g) σ H Q := by
  obtain ⟨w, st, o, st', s, hf, q⟩ := h
  unfold bl at hf
  cases ea : g st with
  | none => rw [ea] at hf; cases hf
  | some p =>
    rw [ea, Option.bind_some] at hf
    cases ek : k p.1 with
    | none => rw [ek] at hf; cases hf
    | some z =>
      rw [ek] at hf
      cases hf
      exact ⟨w, st, p.1, p.2, s, ea, fun w1 vs H1 l1 s1 r1 => hk _ _ ek w1 σ H1 p.2 vs Q s1 r1 fun w' v H' l s' r' => q w' v H' (l1.trans l) s' r'⟩
theorem b1_ok {r : List V → Hp → VK → Prop} {k : Sq → Option O} {f : EvR} (hk : KR B r k) {σ : L2.St} {H : Hp} {Q : VK} (h : tE B (b1 k f) σ H Q) : tCB r (tCons (tR B f) tNil) σ H Q := by
  obtain ⟨w, st, o, st', s, hf, q⟩ := h
  unfold b1 at hf
  cases ea : f st with
  | none => rw [ea] at hf; cases hf
  | some p =>
    rw [ea, Option.bind_some] at hf
    cases el : look p.2 p.1 with
    | none => rw [el] at hf; cases hf
    | some c =>
      rw [el, Option.bind_some] at hf
      cases ek : k c with
      | none => rw [ek] at hf; cases hf
      | some z =>
        rw [ek] at hf
        cases hf
        exact ⟨w, st, p.1, p.2, s, ea, fun w1 v H1 l1 s1 r1 => hk _ _ ek w1 σ H1 p.2 v Q s1 (look_ok s1 r1 el) fun w' v H' l s' r' => q w' v H' (l1.trans l) s' r'⟩
section
variable {x : Str} {id T : String} {r : List V → Hp → VK → Prop} {k : List U → Option O} {kr : Sq → Option O} {f : EvR} {g : EvL}
theorem e_bl (hc : CallR X (.builtin id) r) (hk : KC (bsX X) r k) (hg : Gl X x) (hm : X.mg x = none) (hv : bootBuiltins x = some (.builtin id)) (ha : PA X (e :: es) (tL (bsX X) g)) (hn : x ≠ "__name__" := by decide) (hd : (x == ("__debug__" : Str)) = false := by decide)
    (he : starEach (e :: es) X.env = (false, eval e X.env) :: starEach es X.env := by rfl) (hp : (backTo pos (starEach es X.env)).any (·.1) = false := by rfl) : PE X (.Call (.Name x p) (e :: es) [] pos) (tE (bsX X) (bl k g)) :=
  peW (pe_callB hc hg hm hv ha hn hd he hp) fun _ _ _ h => bl_ok hk h
theorem e_ty (hc : CallR X (.type T) r) (hk : KC (bsX X) r k) (hg : Gl X x) (hm : X.mg x = none) (hv : bootBuiltins x = some (.type T)) (ha : PA X (e :: es) (tL (bsX X) g)) (hn : x ≠ "__name__" := by decide) (hd : (x == ("__debug__" : Str)) = false := by decide)
    (he : starEach (e :: es) X.env = (false, eval e X.env) :: starEach es X.env := by rfl) (hp : (backTo pos (starEach es X.env)).any (·.1) = false := by rfl) : PE X (.Call (.Name x p) (e :: es) [] pos) (tE (bsX X) (bl k g)) :=
  peW (pe_callTy hc hg hm hv ha hn hd he hp) fun _ _ _ h => bl_ok hk h
theorem e_bl1 (hc : CallR X (.builtin id) r) (hk : KR (bsX X) r kr) (hg : Gl X x) (hm : X.mg x = none) (hv : bootBuiltins x = some (.builtin id)) (ha : PE X e (tR (bsX X) f)) (hn : x ≠ "__name__" := by decide) (hd : (x == ("__debug__" : Str)) = false := by decide)
    (he : starEach [e] X.env = (false, eval e X.env) :: starEach [] X.env := by rfl) : PE X (.Call (.Name x p) [e] [] pos) (tE (bsX X) (b1 kr f)) :=
  peW (pe_callB hc hg hm hv (pa_cons ha pa_nil he) hn hd he rfl) fun _ _ _ h => b1_ok hk h
theorem e_ty1 (hc : CallR X (.type T) r) (hk : KR (bsX X) r kr) (hg : Gl X x) (hm : X.mg x = none) (hv : bootBuiltins x = some (.type T)) (ha : PE X e (tR (bsX X) f)) (hn : x ≠ "__name__" := by decide) (hd : (x == ("__debug__" : Str)) = false := by decide)
    (he : starEach [e] X.env = (false, eval e X.env) :: starEach [] X.env := by rfl) : PE X (.Call (.Name x p) [e] [] pos) (tE (bsX X) (b1 kr f)) :=
  peW (pe_callTy hc hg hm hv (pa_cons ha pa_nil he) hn hd he rfl) fun _ _ _ h => b1_ok hk h
end
theorem Rets.u {x : U} {v : V} {Q : VK} (q : Rets B w σ st (.u x) Q) (s : Sim B w σ H st) (r : RU B w x v) : Q v H := q w v H (Le.rfl' w) s r

/-! ### len -/
def kLen : Sq → Option O
  | .l xs => some (.u (.v (.int xs.length)))
  | .t xs => some (.u (.v (.int xs.length)))
  | .s x => if lineOk x.length then some (.u (.v (.int x.length))) else none
  | .d _ => none
theorem kr_len : KR (bsX X) (fun xs H Q => (∃ p ys, xs = [.ref p] ∧ (SqL X.K H p ys ∨ SqT X.K H p ys) ∧ Q (.int ys.length) H) ∨ ∃ z, xs = [.str z] ∧ z.length ≤ sizeLine ∧ Q (.int z.length) H) kLen := by
  intro c o hk w σ H st v Q s r q
  unfold kLen at hk
  split at hk
  · cases hk
    obtain ⟨a, vs, rfl, hS, hr⟩ := r
    have := hr.length
    refine .inl ⟨a, vs, rfl, .inl hS, ?_⟩
    rw [← hr.length]
    exact q.u s (.int _)
  · cases hk
    obtain ⟨a, vs, rfl, hS, hr, _⟩ := r
    refine .inl ⟨a, vs, rfl, .inr hS, ?_⟩
    rw [← hr.length]
    exact q.u s (.int _)
  · split at hk
    · rename_i hz
      cases hk
      cases (show v = _ from r)
      exact .inr ⟨_, rfl, lineOk_le hz, q.u s (.int _)⟩
    · cases hk
  · cases hk
theorem e_len {p : Pos} {f : EvR} (hg : Gl X "len") (hm : X.mg "len" = none) (ha : PE X e (tR (bsX X) f)) (he : starEach [e] X.env = (false, eval e X.env) :: starEach [] X.env := by rfl) : PE X (.Call (.Name "len" p) [e] [] pos) (tE (bsX X) (b1 kLen f)) :=
  e_bl1 (call_len_seq.or call_len_str) kr_len hg hm boot_len ha (he := he)

/-! ### int, abs, max, min of two -/
def kInt : List U → Option O
  | [.v (.int i)] => some (.u (.v (.int i)))
  | [.v (.bool b)] => some (.u (.v (.int (if b then 1 else 0))))
  | _ => none
theorem kc_int : KC B (fun xs H Q => (∃ i, xs = [.int i] ∧ Q (.int i) H) ∨ ∃ k, xs = [.bl k] ∧ Q (.int (if k then 1 else 0)) H) kInt := by
  intro xs o hk w σ H st vs Q s r q
  unfold kInt at hk
  split at hk
  · cases hk
    cases r with
    | cons r t =>
      cases t
      cases (show Rp w.F _ _ from r)
      exact .inl ⟨_, rfl, q.u s (.int _)⟩
  · cases hk
    cases r with
    | cons r t =>
      cases t
      cases (show Rp w.F _ _ from r)
      exact .inr ⟨_, rfl, q.u s (.int _)⟩
  · cases hk
theorem e_int' {p : Pos} {g : EvL} (hg : Gl X "int") (hm : X.mg "int" = none) (ha : PA X [e] (tL (bsX X) g)) (he : starEach [e] X.env = (false, eval e X.env) :: starEach [] X.env := by rfl) : PE X (.Call (.Name "int" p) [e] [] pos) (tE (bsX X) (bl kInt g)) :=
  e_ty call_int1 kc_int hg hm (by decide +kernel) ha (he := he)
def kAbs : List U → Option O
  | [.v (.int i)] => some (.u (.v (.int (if i < 0 then -i else i))))
  | _ => none
theorem e_abs {p : Pos} {g : EvL} (hg : Gl X "abs") (hm : X.mg "abs" = none) (ha : PA X [e] (tL (bsX X) g)) (he : starEach [e] X.env = (false, eval e X.env) :: starEach [] X.env := by rfl) : PE X (.Call (.Name "abs" p) [e] [] pos) (tE (bsX X) (bl kAbs g)) := by
  refine e_bl call_abs (fun xs o hk w σ H st vs Q s r q => ?_) hg hm (by decide +kernel) ha (he := he)
  unfold kAbs at hk
  split at hk
  · cases hk
    cases r with
    | cons r t =>
      cases t
      cases (show Rp w.F _ _ from r)
      exact ⟨_, rfl, q.u s (.int _)⟩
  · cases hk
def kMax2 : List U → Option O
  | [.v (.int i), .v (.int j)] => some (.u (.v (.int (if j > i then j else i))))
  | _ => none
def kMin2 : List U → Option O
  | [.v (.int i), .v (.int j)] => some (.u (.v (.int (if j < i then j else i))))
  | _ => none
theorem e_max2 {p : Pos} {g : EvL} (hc : X.calm = true) (hg : Gl X "max") (hm : X.mg "max" = none) (ha : PA X [e1, e2] (tL (bsX X) g)) (he : starEach [e1, e2] X.env = (false, eval e1 X.env) :: starEach [e2] X.env := by rfl) (hp : (backTo pos (starEach [e2] X.env)).any (·.1) = false := by rfl) :
    PE X (.Call (.Name "max" p) [e1, e2] [] pos) (tE (bsX X) (bl kMax2 g)) := by
  refine e_bl (call_max2 hc) (fun xs o hk w σ H st vs Q s r q => ?_) hg hm (by decide +kernel) ha (he := he) (hp := hp)
  unfold kMax2 at hk
  split at hk
  · cases hk
    cases r with
    | cons r t =>
      cases t with
      | cons r' t =>
        cases t
        cases (show Rp w.F _ _ from r)
        cases (show Rp w.F _ _ from r')
        exact ⟨_, _, rfl, q.u s (.int _)⟩
  · cases hk
theorem e_min2 {p : Pos} {g : EvL} (hc : X.calm = true) (hg : Gl X "min") (hm : X.mg "min" = none) (ha : PA X [e1, e2] (tL (bsX X) g)) (he : starEach [e1, e2] X.env = (false, eval e1 X.env) :: starEach [e2] X.env := by rfl) (hp : (backTo pos (starEach [e2] X.env)).any (·.1) = false := by rfl) :
    PE X (.Call (.Name "min" p) [e1, e2] [] pos) (tE (bsX X) (bl kMin2 g)) := by
  refine e_bl (call_min2 hc) (fun xs o hk w σ H st vs Q s r q => ?_) hg hm (by decide +kernel) ha (he := he) (hp := hp)
  unfold kMin2 at hk
  split at hk
  · cases hk
    cases r with
    | cons r t =>
      cases t with
      | cons r' t =>
        cases t
        cases (show Rp w.F _ _ from r)
        cases (show Rp w.F _ _ from r')
        exact ⟨_, _, rfl, q.u s (.int _)⟩
  · cases hk

/-! ### list, tuple -/
def kList : Sq → Option O
  | .l xs => some (.ol xs)
  | .t xs => some (.ol xs)
  | _ => none
theorem e_list {p : Pos} {f : EvR} (hg : Gl X "list") (hm : X.mg "list" = none) (ha : PE X e (tR (bsX X) f)) (he : starEach [e] X.env = (false, eval e X.env) :: starEach [] X.env := by rfl) : PE X (.Call (.Name "list" p) [e] [] pos) (tE (bsX X) (b1 kList f)) := by
  refine e_ty1 call_list_of (fun c o hk w σ H st v Q s r q => ?_) hg hm (by decide +kernel) ha (he := he)
  unfold kList at hk
  split at hk
  · cases hk
    obtain ⟨a, vs, rfl, hS, hr⟩ := r
    refine ⟨a, vs, rfl, .inl hS, fun l hl => ?_⟩
    obtain ⟨w', le, s', r'⟩ := s.newLst hl hr
    exact q w' _ _ le s' r'
  · cases hk
    obtain ⟨a, vs, rfl, hS, hr, _⟩ := r
    refine ⟨a, vs, rfl, .inr hS, fun l hl => ?_⟩
    obtain ⟨w', le, s', r'⟩ := s.newLst hl hr
    exact q w' _ _ le s' r'
  · cases hk
/-- tuple(list); tuple(tuple) is asked of plain values -/
def kTuple : Sq → Option O
  | .l xs => some (.u (.v (.tuple xs)))
  | _ => none
theorem e_tuple {p : Pos} {f : EvR} (hg : Gl X "tuple") (hm : X.mg "tuple" = none) (ha : PE X e (tR (bsX X) f)) (he : starEach [e] X.env = (false, eval e X.env) :: starEach [] X.env := by rfl) : PE X (.Call (.Name "tuple" p) [e] [] pos) (tE (bsX X) (b1 kTuple f)) := by
  refine e_ty1 call_tupF (fun c o hk w σ H st v Q s r q => ?_) hg hm (by decide +kernel) ha (he := he)
  unfold kTuple at hk
  split at hk
  · cases hk
    obtain ⟨a, vs, rfl, hS, hr⟩ := r
    refine ⟨a, vs, rfl, .inl ⟨hS, fun l ob hl hd => ?_⟩⟩
    obtain ⟨w', le, s', r'⟩ := s.newTup hl hd hr
    exact q w' _ _ le s' r'
  · cases hk
/-- list(range(n)), list(range(a, b)) -/
def rgP (a b : Int) : List PyData := (List.range (b - a).toNat).map fun i => .int (a + (i : Nat))
def rgOk (a b : Int) : Bool := decide (0 ≤ a) && decide (a.natAbs ≤ 16777216) && decide (0 ≤ b) && decide (b.natAbs ≤ 16777216)
theorem rgP_ok {F : Hp} (a b : Int) : RpAll F (rgP a b) (rgV a b) := by
  have : ∀ l : List Nat, RpAll F (l.map fun i => PyData.int (a + (i : Nat))) (l.map fun i => V.int (a + (i : Nat))) := by
    intro l
    induction l with
    | nil => exact .nil
    | cons n l ih => exact .cons (.int _) ih
  exact this _
def lrg1 (f : EvU) : EvO := fun st => (f st).bind fun p => match p.1 with
  | .v (.int b) => if rgOk 0 b then some (.ol (rgP 0 b), p.2) else none
  | _ => none
def lrg2 (f g : EvU) : EvO := fun st => (f st).bind fun p => (g p.2).bind fun q => match p.1, q.1 with
  | .v (.int a), .v (.int b) => if rgOk a b then some (.ol (rgP a b), q.2) else none
  | _, _ => none
theorem rgOk_ok {a b : Int} (h : rgOk a b = true) : RgOk a b := by
  simp only [rgOk, Bool.and_eq_true, decide_eq_true_eq] at h
  exact .of_le h.1.1.1 (by omega) (by omega) h.1.2
theorem e_lrg1 {p1 p2 pos2 : Pos} {f : EvU} (hc : X.calm = true) (hg : Gl X "list") (hm : X.mg "list" = none) (hg2 : Gl X "range") (hm2 : X.mg "range" = none) (ha : PE X e (tU (bsX X) f)) (na : starEach [e] X.env = (false, eval e X.env) :: starEach [] X.env := by rfl)
    (nb : starEach [Expr.Call (.Name "range" p2) [e] [] pos2] X.env = (false, eval (.Call (.Name "range" p2) [e] [] pos2) X.env) :: starEach [] X.env := by rfl) : PE X (.Call (.Name "list" p1) [.Call (.Name "range" p2) [e] [] pos2] [] pos) (tE (bsX X) (lrg1 f)) :=
  peW (pe_listRg hc hg hm (prg_1 hg2 hm2 ha na) nb) fun σ H Q ⟨w, st, x, st', s, hf, q⟩ => by
    unfold lrg1 at hf
    cases ea : f st with
    | none => rw [ea] at hf; cases hf
    | some p =>
      rw [ea, Option.bind_some] at hf
      split at hf
      · rename_i b hb
        split at hf
        · rename_i hr
          cases hf
          refine ⟨w, st, p.1, p.2, s, ea, fun w1 v1 H1 l1 s1 r1 => ?_⟩
          rw [hb] at r1
          cases (show Rp w1.F _ _ from r1)
          refine ⟨b, rfl, rgOk_ok hr, fun l hl => ?_⟩
          obtain ⟨w', le, s', r'⟩ := s1.newLst hl (rgP_ok 0 b)
          exact q w' _ _ (l1.trans le) s' r'
        · cases hf
      · cases hf

/-! ### sum, max, min, any, all -/
def intsOf : List PyData → Option (List Int)
  | [] => some []
  | .int i :: r => (intsOf r).map (i :: ·)
  | _ => none
def boolsOf : List PyData → Option (List Bool)
  | [] => some []
  | .bool b :: r => (boolsOf r).map (b :: ·)
  | _ => none
theorem intsOf_eq : ∀ {xs : List PyData} {ns : List Int}, intsOf xs = some ns → xs = ns.map .int
  | [], _, h => by cases h; rfl
  | .int i :: r, _, h => by
    unfold intsOf at h
    cases e : intsOf r with
    | none => rw [e] at h; cases h
    | some ns => rw [e] at h; cases h; rw [intsOf_eq e]; rfl
  | .none :: _, _, h => by cases h
  | .bool _ :: _, _, h => by cases h
  | .str _ :: _, _, h => by cases h
  | .list _ :: _, _, h => by cases h
  | .tuple _ :: _, _, h => by cases h
  | .dict _ :: _, _, h => by cases h
theorem boolsOf_eq : ∀ {xs : List PyData} {ns : List Bool}, boolsOf xs = some ns → xs = ns.map .bool
  | [], _, h => by cases h; rfl
  | .bool i :: r, _, h => by
    unfold boolsOf at h
    cases e : boolsOf r with
    | none => rw [e] at h; cases h
    | some ns => rw [e] at h; cases h; rw [boolsOf_eq e]; rfl
  | .none :: _, _, h => by cases h
  | .int _ :: _, _, h => by cases h
  | .str _ :: _, _, h => by cases h
  | .list _ :: _, _, h => by cases h
  | .tuple _ :: _, _, h => by cases h
  | .dict _ :: _, _, h => by cases h
theorem intsOf_map : ∀ ns : List Int, intsOf (ns.map .int) = some ns
  | [] => rfl
  | n :: ns => by simp [intsOf, intsOf_map ns]
theorem boolsOf_map : ∀ ns : List Bool, boolsOf (ns.map .bool) = some ns
  | [] => rfl
  | n :: ns => by simp [boolsOf, boolsOf_map ns]
theorem preSum_take {ns : List Int} : ∀ n, n ≤ ns.length → preSum (fun i => ns.getD i 0) n = (ns.take n).sum
  | 0, _ => by simp [preSum]
  | n + 1, h => by
    have hn : n < ns.length := by omega
    have : ns[n]? = some ns[n] := List.getElem?_eq_getElem hn
    rw [preSum, preSum_take n (by omega), ← List.take_append_getElem hn, List.sum_append]
    simp [List.getD, this]
/-- sum(t), t a tuple of ints -/
def rSumT (K : PySem.W.Frag) : List V → Hp → VK → Prop := fun vs H Q => ∃ (a : Addr) (ns : List Int), vs = [V.ref a] ∧ SqT K H a (ns.map V.int) ∧ Q (.int ns.sum) H
theorem cr_sumT (hc : X.calm = true) : CallR X (.builtin "sum") (rSumT X.K) := by
  rintro pins s σ H vs us Q I r ⟨a, ns, rfl, hs, q⟩
  obtain ⟨its, rv, ht, _⟩ := I.tuple hs
  rw [Vals.ref1 r]
  have hl : its.length = ns.length := by rw [← rv.length, List.length_map]
  refine PySem.call_sum_walkG (wpAny_pyIter_tuple (show s.heap.IsTuple a its.toArray from ht) ?_)
  have hne : a ≠ s.heap.objs.size := fun z => by
    obtain ⟨o, ho, _⟩ := ht
    exact absurd (Heap.lt_size ho) (by rw [z]; exact Nat.lt_irrefl _)
  have hp : ∀ b o, s.heap.get? b = some o → (s.heap.push { cls := .type "tuple_iterator", data := .fields #[.ref a, .int 0 0] }).get? b = some o := fun b o e => Heap.get?_push_of_some _ e
  refine ⟨s.heap.objs.size, _, _, its.toArray.size, _, _, (fun i => ns.getD i 0), rfl, Walks.tuple (A := X.A.in1) (I.ok.hd hc) s.heap.objs.size a hne its.toArray, ⟨⟨_, Heap.get?_push_size _ rfl, rfl, rfl⟩, ?_⟩, fun b hb => ?_, fun i v hi => ?_, fun h' tk t' hk => ?_⟩
  · obtain ⟨o, ho, hr⟩ := ht
    exact ⟨o, hp _ _ ho, hr⟩
  · rw [Heap.size_push]
    have hb' : b = s.heap.objs.size ∨ b = a := by simpa using hb
    rcases hb' with rfl | rfl
    · exact Nat.lt_succ_self _
    · obtain ⟨o, ho, _⟩ := ht
      exact Nat.lt_succ_of_lt (Heap.lt_size ho)
  · have hi : its[i]? = some v := by simpa using hi
    have hin : i < ns.length := by rw [← hl]; exact (List.getElem?_eq_some_iff.mp hi).1
    obtain ⟨u, hu, ru⟩ := rv.get (i := i) (x := V.int ns[i]) (by simp [hin])
    rw [hi] at hu
    cases hu
    obtain ⟨t, rfl⟩ := ru
    exact ⟨t, by simp [List.getD, hin]⟩
  · have e : preSum (fun i => ns.getD i 0) its.toArray.size = ns.sum := by
      rw [List.size_toArray, hl, preSum_take _ (Nat.le_refl _), List.take_length]
    rw [e]
    refine ⟨.int ns.sum, H, I.kept (t' := tk) fun b o eb => hk b o ?_ (hp b o eb), ⟨_, rfl⟩, q⟩
    intro hb
    have : b = s.heap.objs.size := by simpa using hb
    subst this
    exact absurd (Heap.lt_size eb) (Nat.lt_irrefl _)
def kSum : Sq → Option O
  | .l xs => (intsOf xs).map fun ns => .u (.v (.int ns.sum))
  | .t xs => (intsOf xs).map fun ns => .u (.v (.int ns.sum))
  | _ => none
theorem e_sum {p : Pos} {f : EvR} (hc : X.calm = true) (hg : Gl X "sum") (hm : X.mg "sum" = none) (ha : PE X e (tR (bsX X) f)) (he : starEach [e] X.env = (false, eval e X.env) :: starEach [] X.env := by rfl) : PE X (.Call (.Name "sum" p) [e] [] pos) (tE (bsX X) (b1 kSum f)) := by
  refine e_bl1 ((cr_sum hc).or (cr_sumT hc)) (fun c o hk w σ H st v Q s r q => ?_) hg hm (by decide +kernel) ha (he := he)
  unfold kSum at hk
  split at hk
  · obtain ⟨ns, hn, rfl⟩ := Option.map_eq_some_iff.mp hk
    obtain ⟨a, vs, rfl, hS, hr⟩ := r
    rw [intsOf_eq hn] at hr
    obtain rfl := hr.ints
    exact .inl ⟨a, ns, rfl, hS, q.u s (.int _)⟩
  · obtain ⟨ns, hn, rfl⟩ := Option.map_eq_some_iff.mp hk
    obtain ⟨a, vs, rfl, hS, hr, _⟩ := r
    rw [intsOf_eq hn] at hr
    obtain rfl := hr.ints
    exact .inr ⟨a, ns, rfl, hS, q.u s (.int _)⟩
  · cases hk
def maxI : List Int → Int
  | [] => 0
  | x :: xs => xs.foldl max x
def minI : List Int → Int
  | [] => 0
  | x :: xs => xs.foldl min x
theorem maxI_one : ∀ (xs : List Int) (x : Int), x ≤ xs.foldl max x ∧ (∀ y ∈ xs, y ≤ xs.foldl max x) ∧ (xs.foldl max x = x ∨ xs.foldl max x ∈ xs)
  | [], x => ⟨Int.le_refl _, fun _ h => absurd h (by simp), .inl rfl⟩
  | y :: ys, x => by
    obtain ⟨h1, h2, h3⟩ := maxI_one ys (max x y)
    rw [List.foldl_cons]
    have hx := Int.le_max_left x y
    have hy := Int.le_max_right x y
    refine ⟨by omega, fun z hz => ?_, ?_⟩
    · rcases List.mem_cons.mp hz with rfl | hz
      · omega
      · exact h2 z hz
    · rcases h3 with h3 | h3
      · rw [h3]
        by_cases hc : x ≤ y
        · exact .inr (by rw [Int.max_eq_right hc]; exact List.mem_cons_self)
        · exact .inl (Int.max_eq_left (by omega))
      · exact .inr (List.mem_cons_of_mem _ h3)
theorem minI_one : ∀ (xs : List Int) (x : Int), xs.foldl min x ≤ x ∧ (∀ y ∈ xs, xs.foldl min x ≤ y) ∧ (xs.foldl min x = x ∨ xs.foldl min x ∈ xs)
  | [], x => ⟨Int.le_refl _, fun _ h => absurd h (by simp), .inl rfl⟩
  | y :: ys, x => by
    obtain ⟨h1, h2, h3⟩ := minI_one ys (min x y)
    rw [List.foldl_cons]
    have hx := Int.min_le_left x y
    have hy := Int.min_le_right x y
    refine ⟨by omega, fun z hz => ?_, ?_⟩
    · rcases List.mem_cons.mp hz with rfl | hz
      · omega
      · exact h2 z hz
    · rcases h3 with h3 | h3
      · rw [h3]
        by_cases hc : x ≤ y
        · exact .inl (Int.min_eq_left hc)
        · exact .inr (by rw [Int.min_eq_right (by omega)]; exact List.mem_cons_self)
      · exact .inr (List.mem_cons_of_mem _ h3)
theorem maxI_is {ns : List Int} {m : Int} (h1 : m ∈ ns) (h2 : ∀ y ∈ ns, y ≤ m) : m = maxI ns := by
  cases ns with
  | nil => exact absurd h1 (by simp)
  | cons x xs =>
    obtain ⟨a, b, c⟩ := maxI_one xs x
    show m = xs.foldl max x
    have : xs.foldl max x ≤ m := by
      rcases c with c | c
      · rw [c]; exact h2 x List.mem_cons_self
      · exact h2 _ (List.mem_cons_of_mem _ c)
    rcases List.mem_cons.mp h1 with rfl | h1
    · omega
    · have := b m h1
      omega
theorem minI_is {ns : List Int} {m : Int} (h1 : m ∈ ns) (h2 : ∀ y ∈ ns, m ≤ y) : m = minI ns := by
  cases ns with
  | nil => exact absurd h1 (by simp)
  | cons x xs =>
    obtain ⟨a, b, c⟩ := minI_one xs x
    show m = xs.foldl min x
    have : m ≤ xs.foldl min x := by
      rcases c with c | c
      · rw [c]; exact h2 x List.mem_cons_self
      · exact h2 _ (List.mem_cons_of_mem _ c)
    rcases List.mem_cons.mp h1 with rfl | h1
    · omega
    · have := b m h1
      omega
def kMax : Sq → Option O
  | .l xs => (intsOf xs).bind fun ns => if ns.isEmpty then none else some (.u (.v (.int (maxI ns))))
  | _ => none
def kMin : Sq → Option O
  | .l xs => (intsOf xs).bind fun ns => if ns.isEmpty then none else some (.u (.v (.int (minI ns))))
  | _ => none
theorem e_max {p : Pos} {f : EvR} (hc : X.calm = true) (hg : Gl X "max") (hm : X.mg "max" = none) (ha : PE X e (tR (bsX X) f)) (he : starEach [e] X.env = (false, eval e X.env) :: starEach [] X.env := by rfl) : PE X (.Call (.Name "max" p) [e] [] pos) (tE (bsX X) (b1 kMax f)) := by
  refine e_bl1 (cr_max hc) (fun c o hk w σ H st v Q s r q => ?_) hg hm (by decide +kernel) ha (he := he)
  unfold kMax at hk
  split at hk
  · cases hn : intsOf _ with
    | none => rw [hn] at hk; cases hk
    | some ns =>
      rw [hn, Option.bind_some] at hk
      split at hk
      · cases hk
      · rename_i hne
        cases hk
        obtain ⟨a, vs, rfl, hS, hr⟩ := r
        rw [intsOf_eq hn] at hr
        obtain rfl := hr.ints
        refine ⟨a, ns, rfl, hS, ?_, fun m h1 h2 => ?_⟩
        · cases ns with
          | nil => exact absurd rfl hne
          | cons _ _ => simp
        · rw [maxI_is h1 h2]
          exact q.u s (.int _)
  · cases hk
theorem e_min {p : Pos} {f : EvR} (hc : X.calm = true) (hg : Gl X "min") (hm : X.mg "min" = none) (ha : PE X e (tR (bsX X) f)) (he : starEach [e] X.env = (false, eval e X.env) :: starEach [] X.env := by rfl) : PE X (.Call (.Name "min" p) [e] [] pos) (tE (bsX X) (b1 kMin f)) := by
  refine e_bl1 (cr_min hc) (fun c o hk w σ H st v Q s r q => ?_) hg hm (by decide +kernel) ha (he := he)
  unfold kMin at hk
  split at hk
  · cases hn : intsOf _ with
    | none => rw [hn] at hk; cases hk
    | some ns =>
      rw [hn, Option.bind_some] at hk
      split at hk
      · cases hk
      · rename_i hne
        cases hk
        obtain ⟨a, vs, rfl, hS, hr⟩ := r
        rw [intsOf_eq hn] at hr
        obtain rfl := hr.ints
        refine ⟨a, ns, rfl, hS, ?_, fun m h1 h2 => ?_⟩
        · cases ns with
          | nil => exact absurd rfl hne
          | cons _ _ => simp
        · rw [minI_is h1 h2]
          exact q.u s (.int _)
  · cases hk
def kAny : Sq → Option O
  | .l xs => (boolsOf xs).map fun ns => .u (.v (.bool (ns.any id)))
  | _ => none
def kAll : Sq → Option O
  | .l xs => (boolsOf xs).map fun ns => .u (.v (.bool (ns.all id)))
  | _ => none
theorem e_any {p : Pos} {f : EvR} (hc : X.calm = true) (hg : Gl X "any") (hm : X.mg "any" = none) (ha : PE X e (tR (bsX X) f)) (he : starEach [e] X.env = (false, eval e X.env) :: starEach [] X.env := by rfl) : PE X (.Call (.Name "any" p) [e] [] pos) (tE (bsX X) (b1 kAny f)) := by
  refine e_bl1 (cr_any hc) (fun c o hk w σ H st v Q s r q => ?_) hg hm (by decide +kernel) ha (he := he)
  unfold kAny at hk
  split at hk
  · obtain ⟨ns, hn, rfl⟩ := Option.map_eq_some_iff.mp hk
    obtain ⟨a, vs, rfl, hS, hr⟩ := r
    rw [boolsOf_eq hn] at hr
    obtain rfl := hr.bools
    exact ⟨a, ns, rfl, hS, q.u s (.bl _)⟩
  · cases hk
theorem e_all {p : Pos} {f : EvR} (hc : X.calm = true) (hg : Gl X "all") (hm : X.mg "all" = none) (ha : PE X e (tR (bsX X) f)) (he : starEach [e] X.env = (false, eval e X.env) :: starEach [] X.env := by rfl) : PE X (.Call (.Name "all" p) [e] [] pos) (tE (bsX X) (b1 kAll f)) := by
  refine e_bl1 (cr_all hc) (fun c o hk w σ H st v Q s r q => ?_) hg hm (by decide +kernel) ha (he := he)
  unfold kAll at hk
  split at hk
  · obtain ⟨ns, hn, rfl⟩ := Option.map_eq_some_iff.mp hk
    obtain ⟨a, vs, rfl, hS, hr⟩ := r
    rw [boolsOf_eq hn] at hr
    obtain rfl := hr.bools
    exact ⟨a, ns, rfl, hS, q.u s (.bl _)⟩
  · cases hk

/-! ### repr -/
def kRepr : List U → Option O
  | [.v d] => if SeqAt.shaped d && d.showable && lineOk d.shown.length then some (.u (.v (.str d.shown))) else none
  | _ => none
def rRepr (K : PySem.W.Frag) : List V → Hp → VK → Prop := fun vs H Q => ∃ v d, vs = [v] ∧ Dp K H v d ∧ SeqAt.shaped d = true ∧ d.showable = true ∧ d.shown.length ≤ sizeLine ∧ Q (.str d.shown) H
theorem cr_repr {k : Nat} (hr : Room k X.A) (hg : X.A.guards = some []) : CallR X (.builtin "repr") (rRepr X.K) := by
  rintro pins s σ H vs us Q I r ⟨v, d, rfl, hd, sh, sw, sz, q⟩
  obtain ⟨u, rfl, rv⟩ := vals1 r
  have hu := room65 hr
  have fin : ∀ (h' : Heap) (t : Tok) (tk : Nat), (∀ b o, s.heap.get? b = some o → h'.get? b = some o) → EP X pins σ Q (.str d.shown t) { s with heap := h', toks := tk } :=
    fun h' t tk hk => ⟨.str d.shown, H, I.kept hk, ⟨_, rfl⟩, q⟩
  obtain ⟨as, rd⟩ := Dp.reads I d v u hd rv
  cases rd with
  | none => exact PySem.P.repr_of_none (fin _ _ _ fun _ _ e => e)
  | bool b => exact PySem.P.repr_of_bool (fin s.heap _ _ fun _ _ e => e)
  | int i t => exact PySem.P.repr_of_int (of_decide_eq_true sw) (fin s.heap _ _ fun _ _ e => e)
  | str x t => exact PySem.P.repr_of_str (fin s.heap _ _ fun _ _ e => e) sz
  | list h1 h2 h3 h4 =>
    refine repr_of_reads' (.list h1 h2 h3 h4) sw (fun z => ?_) hg ?_ (fun _ _ e => e) (fun h' u tk hk => fin h' u tk hk) sz
    · rw [PyData.hasDict_of_canLay _ (SeqAt.canLay_of_shaped sh)] at z; cases z
    · have := SeqAt.depth_of_shaped sh; omega
  | tuple h1 h2 h3 h4 =>
    refine repr_of_reads' (.tuple h1 h2 h3 h4) sw (fun z => ?_) hg ?_ (fun _ _ e => e) (fun h' u tk hk => fin h' u tk hk) sz
    · rw [PyData.hasDict_of_canLay _ (SeqAt.canLay_of_shaped sh)] at z; cases z
    · have := SeqAt.depth_of_shaped sh; omega
  | dict h1 h2 h3 h4 h5 => exact absurd (SeqAt.canLay_of_shaped sh) (by simp [PyData.canLay0])
theorem e_repr {k : Nat} {p : Pos} {g : EvL} (hr : Room k X.A) (hgu : X.A.guards = some []) (hg : Gl X "repr") (hm : X.mg "repr" = none) (ha : PA X [e] (tL (bsX X) g)) (he : starEach [e] X.env = (false, eval e X.env) :: starEach [] X.env := by rfl) : PE X (.Call (.Name "repr" p) [e] [] pos) (tE (bsX X) (bl kRepr g)) := by
  refine e_bl (cr_repr hr hgu) (fun xs o hk w σ H st vs Q s r q => ?_) hg hm (by decide +kernel) ha (he := he)
  unfold kRepr at hk
  split at hk
  · split at hk
    · rename_i d hc
      cases hk
      simp only [Bool.and_eq_true] at hc
      cases r with
      | cons r t =>
        cases t
        exact ⟨_, d, rfl, Rp.dp s.h.sub r, hc.1.1, hc.1.2, lineOk_le hc.2, q.u s (.str _)⟩
    · cases hk
  · cases hk

/-! ### sorted -/
/-- any two of them can be compared -/
def alikeB (ds : List PyData) : Bool := ds.all fun d => ds.all fun d' => PySem.W.alike d d'
def sortB (ds : List PyData) : Bool := ((ds.all fun d => match d with
  | .tuple (_ :: _) => true
  | _ => false) || ds.all fun d => match d with
  | .none => false
  | .tuple _ => false
  | _ => true) || (ds.all isTup && match ds with
  | .tuple [] :: _ => true
  | _ => false)
theorem alikeB_ok {ds : List PyData} (h : alikeB ds = true) : PySem.W.AllAlike ds := by
  intro d hd d' hd'
  exact List.all_eq_true.mp (List.all_eq_true.mp h d hd) d' hd'
theorem sortB_ok {ds : List PyData} (h : sortB ds = true) : SortOk ds := by
  unfold sortB at h
  rcases Bool.or_eq_true_iff.mp h with h | h
  · rcases Bool.or_eq_true_iff.mp h with h | h
    · refine .inl (.inl fun d hd => ?_)
      have := List.all_eq_true.mp h d hd
      split at this
      · exact ⟨_, _, rfl⟩
      · cases this
    · refine .inl (.inr fun d hd => ?_)
      have := List.all_eq_true.mp h d hd
      cases d <;> first | (simp at this; done) | exact ⟨fun z => (nomatch z), fun _ z => (nomatch z)⟩
  · rw [Bool.and_eq_true] at h
    refine .inr ⟨?_, fun d hd => ?_⟩
    · have h2 := h.2
      split at h2
      · exact ⟨_, rfl⟩
      · cases h2
    · have := List.all_eq_true.mp h.1 d hd
      cases d <;> first | (simp [isTup] at this; done) | exact ⟨_, rfl⟩
/-- the values of a list, each with what it reads as -/
def Ea (F : Hp) (u : Value) (d : PyData) : Prop := ∃ v, RelV v u ∧ Rp F d v
theorem ea_of {F : Hp} : ∀ {ds : List PyData} {vs : List V} {us : List Value}, RpAll F ds vs → Vals vs us → PySem.W.EachIs (Ea F) us ds
  | _, _, _, .nil, .nil => .nil
  | _, _, _, .cons r t, .cons q u => .cons ⟨_, q, r⟩ (ea_of t u)
theorem of_ea {F : Hp} : ∀ {us : List Value} {ds : List PyData}, PySem.W.EachIs (Ea F) us ds → ∃ vs, Vals vs us ∧ RpAll F ds vs
  | _, _, .nil => ⟨[], .nil, .nil⟩
  | _, _, .cons ⟨v, q, r⟩ t => by
    obtain ⟨vs, h1, h2⟩ := of_ea t
    exact ⟨v :: vs, .cons q h1, .cons r h2⟩
theorem each_imp {α β : Type} {R R' : α → β → Prop} (h : ∀ a b, R a b → R' a b) : ∀ {as : List α} {bs : List β}, PySem.W.EachIs R as bs → PySem.W.EachIs R' as bs
  | _, _, .nil => .nil
  | _, _, .cons r t => .cons (h _ _ r) (each_imp h t)
/-- sorted(x, ..): the items collected, then the sort of a new list -/
theorem sorted_src {prog : Program} {w : World} {A : Around} {E : Value → Shared → Prop} {s : Shared} {v : Value} {vs : List Value} {kw : List (Str × Value)} {Q : Value → Shared → Prop} (ha : argsOk "sorted" ⟨[v], kw⟩) (hL : vs.length ≤ sizeLine)
    (hc : ∀ (A' : Around) (E' : Value → Shared → Prop) (Q' : List Value → Shared → Prop), (∀ h', (∀ b o, s.heap.get? b = some o → h'.get? b = some o) → Q' vs { s with heap := h' }) → wpAny (model prog w) A' (collect v) Q' E' s)
    (h : ∀ (h' : Heap) (E' : Value → Shared → Prop), (∀ b o, s.heap.get? b = some o → h'.get? b = some o) →
      wpAny (model prog w) A.in1 (call (.builtin "list.sort") [.ref h'.objs.size] kw) (fun _ s' => Q (.ref h'.objs.size) s') E' { s with heap := h'.push (seqObj "list" vs.toArray 0) }) :
    wpAny (model prog w) A (call (.builtin "sorted") [v] kw) Q E s := by
  refine call_function_entry_kw kind_sorted plain_sorted entry_sorted ha ?_
  unfold Builtin.«sorted»
  refine wpAny_bind (m := checkCount "sorted" 1 1 _) (wpAny_pure ?_)
  refine wpAny_bind (hc _ _ _ fun h' hk => wpAny_bind (wpAny_newList ?_ hL))
  refine wpAny_bind (wpAny_holding ?_)
  refine wpAny_mono (h h' _ hk) (fun _ s' hq => wpAny_pure ⟨_, rfl, hq⟩) fun _ _ e => e
mutual
theorem reads_there {h : Heap} : ∀ {v : Value} {d : PyData} {as : List Addr}, Reads h v d as → ∀ b ∈ as, ∃ o, h.get? b = some o
  | _, _, _, .none, b, hb => absurd hb (by simp)
  | _, _, _, .bool _, b, hb => absurd hb (by simp)
  | _, _, _, .int _ _, b, hb => absurd hb (by simp)
  | _, _, _, .str _ _, b, hb => absurd hb (by simp)
  | _, _, _, .list h1 _ _ h4, b, hb => by
    rcases List.mem_cons.mp hb with rfl | hb
    · exact ⟨_, h1⟩
    · exact readsAll_there h4 b hb
  | _, _, _, .tuple _ _ _ h4, b, hb => readsAll_there h4 b hb
  | _, _, _, .dict h1 _ _ h4 h5, b, hb => by
    rcases List.mem_append.mp hb with hb | hb
    · rcases List.mem_cons.mp hb with rfl | hb
      · exact ⟨_, h1⟩
      · exact readsAll_there h4 b hb
    · exact readsAll_there h5 b hb
theorem readsAll_there {h : Heap} : ∀ {v : List Value} {d : List PyData} {as : List Addr}, ReadsAll h v d as → ∀ b ∈ as, ∃ o, h.get? b = some o
  | _, _, _, .nil, b, hb => absurd hb (by simp)
  | _, _, _, .cons r t, b, hb => by
    rcases List.mem_append.mp hb with hb | hb
    · exact reads_there r b hb
    · exact readsAll_there t b hb
end
variable {pins : List (Addr × Obj)} {s : Shared}
theorem reads_ea (I : Inv X pins σ H s) {F : Hp} (hF : ∀ a o, F a = some o → H a = some o) {h' : Heap} (hk : ∀ b o, s.heap.get? b = some o → h'.get? b = some o) {u : Value} {d : PyData} (h : Ea F u d) :
    ∃ as, Reads h' u d as ∧ ∀ a, s.heap.objs.size ≤ a → a ∉ as := by
  obtain ⟨v, rv, rp⟩ := h
  obtain ⟨as, r⟩ := Dp.reads I d v u (Rp.dp hF rp) rv
  refine ⟨as, Reads.keeps hk r, fun a ha hm => ?_⟩
  obtain ⟨o, ho⟩ := reads_there r a hm
  exact absurd (Nat.lt_of_lt_of_le (Heap.lt_size ho) ha) (Nat.lt_irrefl _)
/-- a list, a tuple collected -/
theorem collect_sq (I : Inv X pins σ H s) {a : Addr} {vs : List V} (h : SqL X.K H a vs ∨ SqT X.K H a vs) : vs.length ≤ sizeLine ∧ ∃ us, Vals vs us ∧ ∀ (A' : Around) (E' : Value → Shared → Prop) (Q' : List Value → Shared → Prop), (∀ h', (∀ b o, s.heap.get? b = some o → h'.get? b = some o) → Q' us { s with heap := h' }) →
    wpAny (model X.prog X.w) A' (collect (.ref a)) Q' E' s := by
  rcases h with h | h
  · obtain ⟨us, r, pl, hz⟩ := I.list h
    obtain ⟨o, ho, hc, n, hd⟩ := pl.isList
    have hl := r.length
    refine ⟨hz, us, r, fun A' E' Q' q => wpAny_collect_seq a (.inl rfl) ho hc hd q (by rw [List.size_toArray]; omega)⟩
  · obtain ⟨us, r, ⟨o, ho, hc, n, hd⟩, hz⟩ := I.tuple h
    have hl := r.length
    refine ⟨hz, us, r, fun A' E' Q' q => wpAny_collect_seq a (.inr rfl) ho hc hd q (by rw [List.size_toArray]; omega)⟩
def srt (k : PyData → PyData) (ds : List PyData) : List PyData := ds.mergeSort (PySem.W.dataLe false k)
def rSorted' (K : PySem.W.Frag) : List V → Hp → VK → Prop := fun vs H Q => ∃ (a : Addr) (F : Hp) (ds : List PyData) (us : List V), vs = [.ref a] ∧ (∀ a o, F a = some o → H a = some o) ∧ (SqL K H a us ∨ SqT K H a us) ∧ RpAll F ds us ∧ alikeB ds = true ∧ sortB ds = true ∧ (ds.all SeqAt.shaped) = true ∧
  ∀ l vs', H l = none → RpAll F (srt id ds) vs' → Q (.ref l) (upd H l (.lst vs'))
/-- behind a sort: the new list at the heap's end, all else kept -/
theorem sort_end {pins : List (Addr × Obj)} {s : Shared} (I : Inv X pins σ H s) {F : Hp} {h' h2 : Heap} {tk : Nat} (hk : ∀ b o, s.heap.get? b = some o → h'.get? b = some o)
    (k2 : ∀ b o, h'.get? b = some o → h2.get? b = some o) {out : List Value} {c : Nat} (ha : h2.get? h'.objs.size = some (seqObj "list" out.toArray c)) {ds : List PyData} (e : PySem.W.EachIs (Ea F) out ds) (hz : out.length ≤ sizeLine) {Q : VK}
    (q : ∀ l vs', H l = none → RpAll F ds vs' → Q (.ref l) (upd H l (.lst vs'))) : EP X pins σ Q (.ref h'.objs.size) { s with heap := h2, toks := tk } := by
  obtain ⟨vs', r1, r2⟩ := of_ea e
  have I1 : Inv X pins σ H { s with heap := h' } := I.kept (t' := s.toks) hk
  have hn : H h'.objs.size = none := I1.hok.fresh (Nat.le_refl _)
  refine ⟨.ref h'.objs.size, upd H h'.objs.size (.lst vs'), I1.laid (t' := tk) k2 (Nat.le_refl _) ⟨by rw [r1.length]; exact hz, out, c, r1, ha⟩, rfl, q _ vs' hn r2⟩
theorem cr_sorted' {k : Nat} (hr : Room k X.A) : CallR X (.builtin "sorted") (rSorted' X.K) := by
  rintro pins s σ H vs us Q I r ⟨a, F, ds, ws, rfl, hF, hS, hR, h1, h2, h3, q⟩
  rw [Vals.ref1 r]
  obtain ⟨hz, us, rv, hc⟩ := collect_sq I hS
  have hlu : us.length = ds.length := by rw [← rv.length, hR.length]
  have hle : us.length ≤ sizeLine := by rw [← rv.length]; exact hz
  refine sorted_src (args_sorted1 _) hle hc fun h' E' hk => ?_
  have eL : ∀ b o, h'.get? b = some o → b ≠ h'.objs.size := fun b o e => Nat.ne_of_lt (Heap.lt_size e)
  have new : (h'.push (seqObj "list" us.toArray 0)).get? h'.objs.size = some (seqObj "list" us.toArray 0) := Heap.get?_push_size _ rfl
  have I1 : Inv X pins σ H { s with heap := h' } := I.kept (t' := s.toks) hk
  refine list_sort_any (enc := id) (R := Ea F) (bs := ds) new (ea_of hR rv) ?_ (by rw [List.map_id]; exact alikeB_ok h1) (by rw [List.map_id]; exact sortB_ok h2) (by rw [← hlu]; exact hle) (fun d hd => ?_) fun out ho eo => ?_
  · refine each_imp (fun u d hud => ?_) (ea_of hR rv)
    obtain ⟨as, r1, r2⟩ := reads_ea I1 hF (h' := h'.push (seqObj "list" us.toArray 0)) (fun b o e => Heap.get?_push_of_some _ e) hud
    exact ⟨as, r1, r2 _ (Nat.le_refl _)⟩
  · have hu := room65 hr
    have := SeqAt.depth_of_shaped (List.all_eq_true.mp h3 d hd)
    show X.A.units + 1 + 1 + (id d).depth < cLine
    show X.A.units + 1 + 1 + d.depth < cLine
    have hu2 := hr.un
    omega
  · obtain ⟨c, hat⟩ := sortedHeap_at (vs := us) (out := out.toArray) new
    exact sort_end I hk (fun b o e => (sortedHeap_old (eL b o e) (by rw [Heap.size_push]; exact Nat.lt_succ_of_lt (Heap.lt_size e))).trans (Heap.get?_push_of_some _ e)) hat eo (by rw [ho, ← hlu]; exact hle) q
def kSorted : Sq → Option O
  | .l xs => if alikeB xs && sortB xs && xs.all SeqAt.shaped then some (.ol (srt id xs)) else none
  | .t xs => if alikeB xs && sortB xs && xs.all SeqAt.shaped then some (.ol (srt id xs)) else none
  | _ => none
theorem e_sorted {k : Nat} {p : Pos} {f : EvR} (hr : Room k X.A) (hg : Gl X "sorted") (hm : X.mg "sorted" = none) (ha : PE X e (tR (bsX X) f)) (he : starEach [e] X.env = (false, eval e X.env) :: starEach [] X.env := by rfl) : PE X (.Call (.Name "sorted" p) [e] [] pos) (tE (bsX X) (b1 kSorted f)) := by
  refine e_bl1 (cr_sorted' hr) (fun c o hk w σ H st v Q s r q => ?_) hg hm (by decide +kernel) ha (he := he)
  unfold kSorted at hk
  split at hk
  · split at hk
    · rename_i hc
      cases hk
      simp only [Bool.and_eq_true] at hc
      obtain ⟨a, vs, rfl, hS, hr⟩ := r
      refine ⟨a, w.F, _, vs, rfl, s.h.sub, .inl hS, hr, hc.1.1, hc.1.2, hc.2, fun l vs' hl rv => ?_⟩
      obtain ⟨w', le, s', r'⟩ := s.newLst hl rv
      exact q w' _ _ le s' r'
    · cases hk
  · split at hk
    · rename_i hc
      cases hk
      simp only [Bool.and_eq_true] at hc
      obtain ⟨a, vs, rfl, hS, hr, _⟩ := r
      refine ⟨a, w.F, _, vs, rfl, s.h.sub, .inr hS, hr, hc.1.1, hc.1.2, hc.2, fun l vs' hl rv => ?_⟩
      obtain ⟨w', le, s', r'⟩ := s.newLst hl rv
      exact q w' _ _ le s' r'
    · cases hk
  · cases hk

/-! ### sorted(x, key=len) -/
def lenK : PyData → PyData
  | .tuple xs => .int xs.length
  | _ => .none
theorem ksk_len (x : Addr) : Builtin.«list.sort» ⟨[.ref x], [(Str.ofString "key", .builtin "len")]⟩ = ksk_tree x (.builtin "len") false := ksk_t4 "len" x
def rSortLen (K : PySem.W.Frag) : V → Hp → VK → Prop := fun v H Q => ∃ (a : Addr) (F : Hp) (ds : List PyData) (us : List V), v = .ref a ∧ (∀ a o, F a = some o → H a = some o) ∧ (SqL K H a us ∨ SqT K H a us) ∧ RpAll F ds us ∧ (ds.all isTup) = true ∧
  ∀ l vs', H l = none → RpAll F (srt lenK ds) vs' → Q (.ref l) (upd H l (.lst vs'))
theorem ea_keep (I : Inv X pins σ H s) {F : Hp} (hF : ∀ a o, F a = some o → H a = some o) {u : Value} {d : PyData} (h : Ea F u d) (ht : isTup d = true) : ∃ a xs us n ob, u = .ref a ∧ d = .tuple xs ∧ s.heap.get? a = some ob ∧ ob.cls = .type "tuple" ∧ ob.data = .seq (List.toArray us) n ∧ us.length = xs.length ∧ us.length ≤ sizeLine := by
  obtain ⟨v, rv, rp⟩ := h
  cases rp with
  | tup e dn ra =>
    cases rv
    obtain ⟨us, r, ⟨ob, ho, hc, n, hd⟩, hz⟩ := I.tuple (.inl (.inr ⟨_, hF _ _ e⟩))
    exact ⟨_, _, us, n, ob, rfl, rfl, ho, hc, hd, by rw [← r.length, ra.length], by rw [← r.length]; exact hz⟩
  | _ => simp [isTup] at ht
theorem pe_sortLen {k : Nat} {p p2 kp : Pos} {te : TE} (hr : Room k X.A) (hg : Gl X "sorted") (hm : X.mg "sorted" = none) (hg2 : Gl X "len") (hm2 : X.mg "len" = none) (ha : PE X e te)
    (he : backTo pos (starEach [e] X.env) = (false, eval e X.env) :: backTo pos (starEach [] X.env) := by rfl) (hs : starEach [e] X.env = (false, eval e X.env) :: starEach [] X.env := by rfl) (hp : (backTo pos (starEach [e] X.env)).any (·.1) = false := by rfl)
    (h1 : (backToKw pos (keywordEach [⟨some "key", .Name "len" p2, kp⟩] X.env)).all (·.1.isSome) = true := by rfl) (h2 : (backToKw pos (keywordEach [⟨some "key", .Name "len" p2, kp⟩] X.env)).any (·.1.isNone) = false := by rfl)
    (h3 : (backToKw pos (keywordEach [⟨some "key", .Name "len" p2, kp⟩] X.env)).filterMap (·.1) = [Str.ofString "key"] := by rfl) :
    PE X (.Call (.Name "sorted" p) [e] [⟨some "key", .Name "len" p2, kp⟩] pos) (fun σ H Q => te σ H fun v H1 => rSortLen X.K v H1 Q) := by
  refine ⟨fun pins s σ H Q I h => ?_⟩
  refine wpAny_Call_Name_kw (ld_blt I hg hm (by decide +kernel : bootBuiltins "sorted" = some (.builtin "sorted")) ?_)
  let R : List V → Hp → Prop := fun vs H1 => match vs with
    | [v] => rSortLen X.K v H1 Q
    | _ => False
  have hR' : tCons te tNil σ H R := h
  refine callWith_kw (thn ((pa_cons ha pa_nil hs).run pos pins s σ H R I hR') fun us s1 hh => ?_) he hp h1 h2
  obtain ⟨vs, H1, I1, r1, q1⟩ := hh
  obtain ⟨v1, rfl, q1⟩ : ∃ v, vs = [v] ∧ rSortLen X.K v H1 Q := by
    cases vs with
    | nil => exact False.elim q1
    | cons v t =>
      cases t with
      | nil => exact ⟨v, rfl, q1⟩
      | cons _ _ => exact False.elim q1
  show wpAny _ _ (evalAll ((do let v ← eval (.Name "len" p2) X.env; standAt pos; pure v) :: [])) _ _ s1
  refine wpAny_evalAll_cons (wpAny_bind (ld_blt I1 hg2 hm2 boot_len (wpAny_bind (wpAny_standAt (wpAny_pure (wpAny_evalAll_nil ?_))))))
  rw [h3]
  show wpAny (model X.prog X.w) X.A (call (.builtin "sorted") us [(Str.ofString "key", .builtin "len")]) _ _ s1
  cases r1 with
  | cons rv t =>
    cases t
    obtain ⟨a, F, ds, ws, rfl, hF, hS, hR, hT, q⟩ := q1
    cases rv
    obtain ⟨hz, us, rv, hc⟩ := collect_sq I1 hS
    have hlu : us.length = ds.length := by rw [← rv.length, hR.length]
    have hle : us.length ≤ sizeLine := by rw [← rv.length]; exact hz
    refine sorted_src (ksk_s1 _ _) hle hc fun h' E' hk => ?_
    have eL : ∀ b o, h'.get? b = some o → b ≠ h'.objs.size := fun b o e => Nat.ne_of_lt (Heap.lt_size e)
    have new : (h'.push (seqObj "list" us.toArray 0)).get? h'.objs.size = some (seqObj "list" us.toArray 0) := Heap.get?_push_size _ rfl
    have I2 : Inv X pins σ H1 { s1 with heap := h' } := I1.kept (t' := s1.toks) hk
    have len_ok : ∀ d ∈ ds.map lenK, ∃ i, d = .int i := fun d hd => by
      obtain ⟨d0, hm, rfl⟩ := List.mem_map.mp hd
      have := List.all_eq_true.mp hT d0 hm
      cases d0 <;> first | exact ⟨_, rfl⟩ | (simp [isTup] at this)
    refine PySem.W.list_sort_key_data (R := fun u d => Ea F u d) lenK (bs := ds) new (ea_of hR rv) (fun d hd d' hd' => ?_) (.inr fun d hd => ?_) (by rw [← hlu]; exact hle) (fun d hd => ?_) (ksk_l1 _ _) (ksk_len _) (fun u d hud hd h tk kb => ?_) fun out c h2 tk kb hat ho eo => ?_
    · obtain ⟨i, rfl⟩ := len_ok d hd
      obtain ⟨j, rfl⟩ := len_ok d' hd'
      rfl
    · obtain ⟨i, rfl⟩ := len_ok d hd
      exact ⟨fun z => (nomatch z), fun _ z => (nomatch z)⟩
    · obtain ⟨i, e⟩ := len_ok (lenK d) (List.mem_map_of_mem hd)
      rw [e]
      have hu := hr.un
      show X.A.units + 1 + 1 + 0 < cLine
      omega
    · obtain ⟨b, xs, us, n, ob, rfl, rfl, h1, h2, h3, h4, h5⟩ := ea_keep I2 hF hud (List.all_eq_true.mp hT d hd)
      have hb : b ≠ h'.objs.size := eL b ob h1
      have g := kb b ob hb (Heap.get?_push_of_some _ h1)
      obtain ⟨cls, dd, data, sl⟩ := ob
      simp only at h2 h3
      subst h2 h3
      refine len_tuple (s := { s1 with heap := h, toks := tk }) (items := us.toArray) ⟨_, g, rfl, _, rfl⟩ ?_ ?_
      · have := line_eq
        rw [List.size_toArray]
        omega
      · exact ⟨h, _, rfl, fun _ _ e => e, by rw [List.size_toArray, h4]; exact Reads.int _ _⟩
    · exact sort_end I1 hk (fun b o e => kb b o (eL b o e) (Heap.get?_push_of_some _ e)) hat eo (by rw [ho, ← hlu]; exact hle) q
def kSortLen : Sq → Option O
  | .l xs => if xs.all isTup then some (.ol (srt lenK xs)) else none
  | .t xs => if xs.all isTup then some (.ol (srt lenK xs)) else none
  | _ => none
theorem e_sortLen {k : Nat} {p p2 kp : Pos} {f : EvR} (hr : Room k X.A) (hg : Gl X "sorted") (hm : X.mg "sorted" = none) (hg2 : Gl X "len") (hm2 : X.mg "len" = none) (ha : PE X e (tR (bsX X) f))
    (he : backTo pos (starEach [e] X.env) = (false, eval e X.env) :: backTo pos (starEach [] X.env) := by rfl) (hs : starEach [e] X.env = (false, eval e X.env) :: starEach [] X.env := by rfl) (hp : (backTo pos (starEach [e] X.env)).any (·.1) = false := by rfl)
    (h1 : (backToKw pos (keywordEach [⟨some "key", .Name "len" p2, kp⟩] X.env)).all (·.1.isSome) = true := by rfl) (h2 : (backToKw pos (keywordEach [⟨some "key", .Name "len" p2, kp⟩] X.env)).any (·.1.isNone) = false := by rfl)
    (h3 : (backToKw pos (keywordEach [⟨some "key", .Name "len" p2, kp⟩] X.env)).filterMap (·.1) = [Str.ofString "key"] := by rfl) :
    PE X (.Call (.Name "sorted" p) [e] [⟨some "key", .Name "len" p2, kp⟩] pos) (tE (bsX X) (b1 kSortLen f)) :=
  peW (pe_sortLen hr hg hm hg2 hm2 ha he hs hp h1 h2 h3) fun σ H Q h => by
    have := b1_ok (r := fun vs H Q => ∃ v, vs = [v] ∧ rSortLen X.K v H Q) (fun c o hk w σ H st v Q s r q => ⟨v, rfl, by
      unfold kSortLen at hk
      split at hk
      · split at hk
        · rename_i hc
          cases hk
          obtain ⟨a, vs, rfl, hS, hr⟩ := r
          refine ⟨a, w.F, _, vs, rfl, s.h.sub, .inl hS, hr, hc, fun l vs' hl rv => ?_⟩
          obtain ⟨w', le, s', r'⟩ := s.newLst hl rv
          exact q w' _ _ le s' r'
        · cases hk
      · split at hk
        · rename_i hc
          cases hk
          obtain ⟨a, vs, rfl, hS, hr, _⟩ := r
          refine ⟨a, w.F, _, vs, rfl, s.h.sub, .inr hS, hr, hc, fun l vs' hl rv => ?_⟩
          obtain ⟨w', le, s', r'⟩ := s.newLst hl rv
          exact q w' _ _ le s' r'
        · cases hk
      · cases hk⟩) h
    obtain ⟨w, st, x, st', s, hf, q⟩ := this
    refine ⟨w, st, x, st', s, hf, fun w' v H' l s' r => ?_⟩
    obtain ⟨v', e, q'⟩ := q w' v H' l s' r
    cases e
    exact q'
end
end MP

namespace MP
open PySem PySem.Spec PyProof.Rows L2

/-! ## statements -/
inductive Fl where
  | nx
  | bk
  | ct
  | rt (o : O)
abbrev EvS := Stt → Option (Fl × Stt)
/-- what is wanted behind a statement that ended so -/
def EndOk (B : Bs) (w : Wd) (D : Ends) (fl : Fl) (st : Stt) : Prop := match fl with
  | .nx => ∀ w' σ' H', Le w w' → Sim B w' σ' H' st → D.nx σ' H'
  | .bk => ∀ w' σ' H', Le w w' → Sim B w' σ' H' st → D.bk σ' H'
  | .ct => ∀ w' σ' H', Le w w' → Sim B w' σ' H' st → D.ct σ' H'
  | .rt o => ∀ w' v σ' H', Le w w' → Sim B w' σ' H' st → RO B w' H' .tmp o v → D.rt v H'
def tS (B : Bs) (f : EvS) : TS := fun D σ H => ∃ w st fl st', Sim B w σ H st ∧ f st = some (fl, st') ∧ EndOk B w D fl st'
theorem EndOk.le {B : Bs} {w w1 : Wd} (l : Le w w1) {D : Ends} {fl : Fl} {st : Stt} (h : EndOk B w D fl st) : EndOk B w1 D fl st := by
  cases fl with
  | nx => exact fun w' σ' H' l' s => h w' σ' H' (l.trans l') s
  | bk => exact fun w' σ' H' l' s => h w' σ' H' (l.trans l') s
  | ct => exact fun w' σ' H' l' s => h w' σ' H' (l.trans l') s
  | rt o => exact fun w' v σ' H' l' s r => h w' v σ' H' (l.trans l') s r
section
variable {X : Cx} {e e1 e2 e3 : Expr} {st1 : Stmt} {body rest : List Stmt} {pos : Pos} {B : Bs}
theorem psW {s : Stmt} {t t' : TS} (h : PS X s t) (k : ∀ D σ H, t' D σ H → t D σ H) : PS X s t' := ⟨fun pins s σ H D I q => h.run pins s σ H D I (k D σ H q)⟩
theorem pssW {s : List Stmt} {t t' : TS} (h : PSs X s t) (k : ∀ D σ H, t' D σ H → t D σ H) : PSs X s t' := ⟨fun pins s σ H D I q => h.run pins s σ H D I (k D σ H q)⟩

def sNil : EvS := fun st => some (.nx, st)
def seq (f g : EvS) : EvS := fun st => (f st).bind fun p => match p.1 with
  | .nx => g p.2
  | _ => some p
theorem s_nil : PSs X [] (tS B sNil) := pssW pss_nil fun D σ H ⟨w, st, fl, st', s, hf, q⟩ => by
  cases hf
  exact q w σ H (Le.rfl' w) s
theorem seq_ok {f g : EvS} {D : Ends} {σ : L2.St} {H : Hp} (h : tS B (seq f g) D σ H) : tSeq (tS B f) (tS B g) D σ H := by
  obtain ⟨w, st, fl, st', s, hf, q⟩ := h
  unfold seq at hf
  cases ea : f st with
  | none => rw [ea] at hf; cases hf
  | some p =>
    obtain ⟨fl1, st2⟩ := p
    rw [ea, Option.bind_some] at hf
    refine ⟨w, st, fl1, st2, s, ea, ?_⟩
    cases fl1 with
    | nx => exact fun w' σ' H' l s' => ⟨w', st2, fl, st', s', hf, q.le l⟩
    | bk =>
      cases hf
      exact q
    | ct =>
      cases hf
      exact q
    | rt o =>
      cases hf
      exact q
theorem s_cons {f g : EvS} (h1 : PS X st1 (tS B f)) (h2 : PSs X rest (tS B g)) : PSs X (st1 :: rest) (tS B (seq f g)) := pssW (pss_cons h1 h2) fun D σ H h => seq_ok h
theorem s_one {f : EvS} (h1 : PS X st1 (tS B f)) : PSs X [st1] (tS B f) := pss_one h1
def sPass : EvS := fun st => some (.nx, st)
def sBrk : EvS := fun st => some (.bk, st)
def sCnt : EvS := fun st => some (.ct, st)
theorem s_pass : PS X (.Pass pos) (tS B sPass) := psW ps_pass fun D σ H ⟨w, st, fl, st', s, hf, q⟩ => by
  cases hf
  exact q w σ H (Le.rfl' w) s
theorem s_doc {x j} {pos' : Pos} : PS X (.Expr (.Constant (.str x) j pos) pos') (tS B sPass) := psW ps_doc fun D σ H ⟨w, st, fl, st', s, hf, q⟩ => by
  cases hf
  exact q w σ H (Le.rfl' w) s
theorem s_brk : PS X (.Break pos) (tS B sBrk) := psW ps_break fun D σ H ⟨w, st, fl, st', s, hf, q⟩ => by
  cases hf
  exact q w σ H (Le.rfl' w) s
theorem s_cnt : PS X (.Continue pos) (tS B sCnt) := psW ps_continue fun D σ H ⟨w, st, fl, st', s, hf, q⟩ => by
  cases hf
  exact q w σ H (Le.rfl' w) s
/-- an expression for what it does -/
def sDo (f : EvO) : EvS := fun st => (f st).map fun p => (.nx, p.2)
theorem s_do {f : EvO} (h : PE X e (tE B f)) (hs : swapsWith e none pos.line X.env = pure false := by rfl) : PS X (.Expr e pos) (tS B (sDo f)) :=
  psW (ps_expr h hs) fun D σ H ⟨w, st, fl, st', s, hf, q⟩ => by
    unfold sDo at hf
    cases ea : f st with
    | none => rw [ea] at hf; cases hf
    | some p =>
      rw [ea] at hf
      cases hf
      exact ⟨w, st, p.1, p.2, s, ea, fun w' v H' l s' _ => q w' σ H' l s'⟩
def sRetN : EvS := fun st => some (.rt (.u (.v .none)), st)
theorem s_retN : PS X (.Return none pos) (tS B sRetN) := psW ps_retN fun D σ H ⟨w, st, fl, st', s, hf, q⟩ => by
  cases hf
  exact q w _ σ H (Le.rfl' w) s .non
def sRet (f : EvO) : EvS := fun st => (f st).map fun p => (.rt p.1, p.2)
theorem s_ret {f : EvO} (h : PE X e (tE B f)) : PS X (.Return (some e) pos) (tS B (sRet f)) :=
  psW (ps_ret h) fun D σ H ⟨w, st, fl, st', s, hf, q⟩ => by
    unfold sRet at hf
    cases ea : f st with
    | none => rw [ea] at hf; cases hf
    | some p =>
      rw [ea] at hf
      cases hf
      exact ⟨w, st, p.1, p.2, s, ea, fun w' v H' l s' r => q w' v σ H' l s' r⟩
/-- a name given up: what it owns goes to the result -/
def own (i : Nat) : EvO := fun st => match st.r[i]? with
  | some (some o) => some (o, { st with r := st.r.set i none })
  | _ => none
theorem List.set_none_get {r : List (Option O)} {i j : Nat} {o : O} (h : (r.set i none)[j]? = some (some o)) : j ≠ i ∧ r[j]? = some (some o) := by
  by_cases hj : j = i
  · subst hj
    have : j < r.length := by
      have := (List.getElem?_eq_some_iff.mp h).1
      simpa using this
    rw [List.getElem?_set_self this] at h
    cases h
  · rw [List.getElem?_set_ne (Ne.symm hj)] at h
    exact ⟨hj, h⟩
section
variable {w : Wd} {σ : L2.St} {H : Hp} {st : Stt} {a : Addr} {i : Nat}
theorem Sim.giveUp (s : Sim B w σ H st) : Sim B w σ H { st with r := st.r.set i none } :=
  ⟨s.h, ⟨by simp [s.r.len], s.r.lenH, fun j o q => s.r.slot j o (List.set_none_get q).2, s.r.held⟩⟩
theorem Sim.take (s : Sim B w σ H st) {c : Cell} (ht : w.T a = .slot i) (hc : RC B w H a c) :
    Le w (w.set a .tmp) ∧ Sim B (w.set a .tmp) σ H { st with r := st.r.set i none } ∧ RC B (w.set a .tmp) H a c := by
  have f : Free1 w H a := .inr (.inl (by rw [ht]; trivial))
  have le := s.h.leFree f .tmp
  obtain ⟨o, ho⟩ := hc.some
  refine ⟨le, ⟨?_, ?_⟩, hc.mono le rfl⟩
  · have := s.h.put (o := o) (tg := .tmp) f trivial fun u e => nomatch e
    rw [upd_self ho] at this
    exact this
  · have ne : ∀ {b : Addr} {t : Tag}, w.T b = t → t ≠ .slot i → (w.set a .tmp).T b = t := fun {b t} e n => by
      have hb : b ≠ a := by rintro rfl; exact n (e.symm.trans ht)
      rw [Wd.set_ne hb, e]
    refine ⟨by simp [s.r.len], s.r.lenH, fun j o' q => ?_, fun n o' q => ?_⟩
    · obtain ⟨hj, q⟩ := List.set_none_get q
      obtain ⟨v, q1, q2⟩ := s.r.slot j o' q
      exact ⟨v, q1, q2.mono le fun b t => ⟨rfl, ne t fun z => hj (by cases z; rfl)⟩⟩
    · obtain ⟨v, q1, q2⟩ := s.r.held n o' q
      exact ⟨v, q1, q2.mono le fun b z => ⟨rfl, ne (t := .hold n) z (by simp)⟩⟩
end
theorem e_own {i : Nat} (h : PE X e (tVar i)) : PE X e (tE B (own i)) := peW h fun σ H Q ⟨w, st, x, st', s, hf, q⟩ => by
  unfold own at hf
  split at hf
  · rename_i o e1
    cases hf
    obtain ⟨v, h1, h2⟩ := s.r.slot i _ e1
    refine ⟨v, h1, ?_⟩
    cases x with
    | u y => exact q w v H (Le.rfl' w) s.giveUp h2
    | ol xs =>
      obtain ⟨a, rfl, t, hc⟩ := h2
      obtain ⟨l, s2, r2⟩ := s.take t hc
      exact q _ _ H l s2 ⟨a, rfl, Wd.set_same, r2⟩
    | od kvs =>
      obtain ⟨a, rfl, t, hc⟩ := h2
      obtain ⟨l, s2, r2⟩ := s.take t hc
      exact q _ _ H l s2 ⟨a, rfl, Wd.set_same, r2⟩
  · cases hf
/-- a test that chooses -/
def sIf (t : EvT) (f g : EvS) : EvS := fun st => (t st).bind fun p => if p.1 then f p.2 else g p.2
theorem s_if {t : EvT} {f g : EvS} {a b : List Stmt} (hc : PT X e (tTs B t)) (ha : PSs X a (tS B f)) (hb : PSs X b (tS B g)) : PS X (.If e a b pos) (tS B (sIf t f g)) :=
  psW (ps_if hc ha hb) fun D σ H ⟨w, st, fl, st', s, hf, q⟩ => by
    unfold sIf at hf
    cases ea : t st with
    | none => rw [ea] at hf; cases hf
    | some p =>
      rw [ea, Option.bind_some] at hf
      refine ⟨w, st, p.1, p.2, s, ea, fun w1 H1 l1 s1 => ?_⟩
      cases hp : p.1 with
      | true =>
        rw [hp] at hf
        simp only [if_true] at hf ⊢
        exact ⟨w1, p.2, fl, st', s1, hf, q.le l1⟩
      | false =>
        rw [hp] at hf
        simp only [Bool.false_eq_true, if_false] at hf ⊢
        exact ⟨w1, p.2, fl, st', s1, hf, q.le l1⟩

/-! ### assignments -/
/-- name = value: what the result owns the name owns -/
def sSet (i : Nat) (f : EvO) : EvS := fun st => (f st).bind fun p => if i < p.2.r.length then some (.nx, { p.2 with r := p.2.r.set i (some p.1) }) else none
section
variable {w : Wd} {σ : L2.St} {H : Hp} {st : Stt} {a : Addr} {i : Nat}
theorem Sim.setU (s : Sim B w σ H st) (hi : i < σ.length) {x : U} {v : V} (r : RU B w x v) : Sim B w (σ.set i (some v)) H { st with r := st.r.set i (some (.u x)) } := by
  refine ⟨s.h, ⟨by simp [s.r.len], s.r.lenH, fun j o q => ?_, s.r.held⟩⟩
  by_cases hj : j = i
  · subst hj
    rw [List.getElem?_set_self (by rw [s.r.len]; exact hi)] at q
    cases q
    exact ⟨v, by rw [List.getElem?_set_self hi], r⟩
  · rw [List.getElem?_set_ne (Ne.symm hj)] at q
    obtain ⟨v', q1, q2⟩ := s.r.slot j o q
    exact ⟨v', by rw [List.getElem?_set_ne (Ne.symm hj)]; exact q1, q2⟩
theorem Sim.retag (s : Sim B w σ H st) {c : Cell} (ht : w.T a = .tmp) (hc : RC B w H a c) {tg : Tag} (hp : tg.own) :
    Le w (w.set a tg) ∧ SimH B (w.set a tg) H st.S ∧ RC B (w.set a tg) H a c ∧ ∀ b, b ≠ a → H b = H b ∧ (w.set a tg).T b = w.T b := by
  have f : Free1 w H a := .inr (.inr ht)
  have le := s.h.leFree f tg
  obtain ⟨o, ho⟩ := hc.some
  have := s.h.put (o := o) (tg := tg) f (by cases tg <;> first | trivial | exact hp.elim) fun u e => by rw [e] at hp; exact hp.elim
  rw [upd_self ho] at this
  exact ⟨le, this, hc.mono le rfl, fun b hb => ⟨rfl, Wd.set_ne hb⟩⟩
theorem Sim.setO (s : Sim B w σ H st) (hi : i < σ.length) : ∀ {o : O} {v : V}, RO B w H .tmp o v → ∃ w', Le w w' ∧ Sim B w' (σ.set i (some v)) H { st with r := st.r.set i (some o) }
  | .u x, v, r => ⟨w, Le.rfl' w, s.setU hi r⟩
  | .ol xs, _, ⟨a, rfl, t, hc⟩ => by
    obtain ⟨le, h1, h2, h3⟩ := s.retag (tg := .slot i) t hc trivial
    exact ⟨_, le, h1, s.r.put le h3 hi (fun z => by rw [t] at z; exact z.elim) ⟨a, rfl, Wd.set_same, h2⟩⟩
  | .od kvs, _, ⟨a, rfl, t, hc⟩ => by
    obtain ⟨le, h1, h2, h3⟩ := s.retag (tg := .slot i) t hc trivial
    exact ⟨_, le, h1, s.r.put le h3 hi (fun z => by rw [t] at z; exact z.elim) ⟨a, rfl, Wd.set_same, h2⟩⟩
end
theorem s_set {i : Nat} {x : Str} {pos' : Pos} {f : EvO} (hN : X.N.Nodup) (hi : X.N[i]? = some x) (hx : Loc X.env.scope x) (he : PE X e (tE B f)) (hs : swapsWith e (some (.Name x pos')) pos.line X.env = pure false := by rfl) (hf : X.fn x = true ∨ X.env.scope.names.lookup x = some .local := by first | exact .inl rfl | exact .inr rfl | assumption) :
    PS X (.Assign [.Name x pos'] e pos) (tS B (sSet i f)) :=
  psW (ps_set hN hi hx he hs hf) fun D σ H ⟨w, st, fl, st', s, hg, q⟩ => by
    unfold sSet at hg
    cases ea : f st with
    | none => rw [ea] at hg; cases hg
    | some p =>
      rw [ea, Option.bind_some] at hg
      split at hg
      · rename_i hlt
        cases hg
        refine ⟨w, st, p.1, p.2, s, ea, fun w1 v H1 l1 s1 r1 => ?_⟩
        obtain ⟨w2, l2, s2⟩ := s1.setO (by rw [← s1.r.len]; exact hlt) r1
        exact q w2 _ H1 (l1.trans l2) s2
      · cases hg

/-! ### several results, held -/
abbrev EvH := Stt → Option Stt
structure Lh (vs : List V) (w w' : Wd) : Prop where
  h0 : w'.H0 = w.H0
  t0 : w'.T0 = w.T0
  fz : ∀ a o, w.T a = .fz o → w'.T a = .fz o
  ce : ∀ a l, w.T a = .cell l → w'.T a = .cell l
  m : ∀ (l : Nat) (a : Addr), w.M[l]? = some a → w'.M[l]? = some a
  hv : w'.hv = w.hv ++ vs
theorem Lh.nil (w : Wd) : Lh [] w w := ⟨rfl, rfl, fun _ _ h => h, fun _ _ h => h, fun _ _ h => h, by simp⟩
theorem Lh.after {vs : List V} {a b c : Wd} (p : Le a b) (q : Lh vs b c) : Lh vs a c :=
  ⟨q.h0.trans p.h0, q.t0.trans p.t0, fun x o h => q.fz x o (p.fz x o h), fun x l h => q.ce x l (p.ce x l h), fun l x h => q.m l x (p.m l x h), by rw [q.hv, p.hv]⟩
theorem Lh.trans {us vs : List V} {a b c : Wd} (p : Lh us a b) (q : Lh vs b c) : Lh (us ++ vs) a c :=
  ⟨q.h0.trans p.h0, q.t0.trans p.t0, fun x o h => q.fz x o (p.fz x o h), fun x l h => q.ce x l (p.ce x l h), fun l x h => q.m l x (p.m l x h), by rw [q.hv, p.hv, List.append_assoc]⟩
/-- .. whatever is held -/
def Lx (w w' : Wd) : Prop := Le w { w' with hv := w.hv }
theorem Lx.trans {a b c : Wd} (p : Lx a b) (q : Lx b c) : Lx a c :=
  ⟨q.h0.trans p.h0, q.t0.trans p.t0, fun x o h => q.fz x o (p.fz x o h), fun x l h => q.ce x l (p.ce x l h), fun l x h => q.m l x (p.m l x h), rfl⟩
theorem Lh.lx {vs : List V} {a b : Wd} (p : Lh vs a b) : Lx a b := ⟨p.h0, p.t0, p.fz, p.ce, p.m, rfl⟩
theorem Lx.le {a b : Wd} (p : Lx a b) (h : b.hv = a.hv) : Le a b := ⟨p.h0, p.t0, p.fz, p.ce, p.m, h⟩
def tH (B : Bs) (f : EvH) : TA := fun σ H Q => ∃ w st st', Sim B w σ H st ∧ f st = some st' ∧ ∀ w' vs H', Lh vs w w' → Sim B w' σ H' st' → Q vs H'
def hNil : EvH := fun st => some st
def hCons (f : EvO) (g : EvH) : EvH := fun st => (f st).bind fun p => g { p.2 with h := p.2.h ++ [p.1] }
theorem RU.hv {w : Wd} {hv : List V} : ∀ {x : U} {v : V}, RU B w x v → RU B { w with hv := hv } x v
  | .v _, _, r => r
  | .ref _, _, r => r
  | .scr _, _, r => r
  | .fd _, _, ⟨a, e, q⟩ => ⟨a, e, q⟩
theorem RC.hv {w : Wd} {hv : List V} {H : Hp} {a : Addr} : ∀ {c : Cell}, RC B w H a c → RC B { w with hv := hv } H a c
  | .cl _, r => r
  | .cd _, .inl ⟨ys, q, r⟩ => .inl ⟨ys, q, pairImp (fun _ _ z => ⟨z.1, z.2.hv⟩) r⟩
  | .cd _, .inr ⟨n, xs, q, r⟩ => .inr ⟨n, xs, q, pairImp (fun _ _ z => ⟨z.1, z.2.1, z.2.2.1, z.2.2.2.hv⟩) r⟩
theorem RO.hv {w : Wd} {hv : List V} {H : Hp} {tg : Tag} : ∀ {o : O} {v : V}, RO B w H tg o v → RO B { w with hv := hv } H tg o v
  | .u _, _, r => RU.hv r
  | .ol _, _, ⟨a, q, t, r⟩ => ⟨a, q, t, r.hv⟩
  | .od _, _, ⟨a, q, t, r⟩ => ⟨a, q, t, r.hv⟩
section
variable {w : Wd} {σ : L2.St} {H : Hp} {st : Stt} {a : Addr} {i : Nat}
theorem SimH.hv {S : List Cell} {hv : List V} (h : SimH B w H S) : SimH B { w with hv := hv } H S :=
  ⟨h.fh, h.lenM, h.cm, fun l a c e1 e2 => ⟨(h.cells l a c e1 e2).1, (h.cells l a c e1 e2).2.hv⟩, h.free, h.base, h.tb, h.t0, h.t0f, h.t0c⟩
theorem RO.own0 {tg : Tag} : ∀ {o : O} {v : V}, RO B w H tg o v → (∃ x, o = .u x ∧ RU B w x v) ∨ ∃ c a, v = .ref a ∧ w.T a = tg ∧ RC B w H a c ∧ (∀ w' H' tg', w'.T a = tg' → RC B w' H' a c → RO B w' H' tg' o v)
  | .u x, _, r => .inl ⟨x, rfl, r⟩
  | .ol xs, _, ⟨a, e, t, r⟩ => .inr ⟨.cl xs, a, e, t, r, fun _ _ _ t' r' => ⟨a, e, t', r'⟩⟩
  | .od kvs, _, ⟨a, e, t, r⟩ => .inr ⟨.cd kvs, a, e, t, r, fun _ _ _ t' r' => ⟨a, e, t', r'⟩⟩
theorem heldAll {w' : Wd} {H' : Hp} {h : List O} {o : O} {v : V} (hl : h.length = w.hv.length) (old : ∀ (n : Nat) (o : O), h[n]? = some o → ∃ v, w.hv[n]? = some v ∧ RO B w' H' (.hold n) o v) (hh : w'.hv = w.hv ++ [v]) (new : RO B w' H' (.hold h.length) o v) :
    ∀ (n : Nat) (u : O), (h ++ [o])[n]? = some u → ∃ z, w'.hv[n]? = some z ∧ RO B w' H' (.hold n) u z := fun n u q => by
  rw [hh]
  by_cases hn : n < h.length
  · rw [List.getElem?_append_left hn] at q
    obtain ⟨z, z1, z2⟩ := old n u q
    exact ⟨z, by rw [List.getElem?_append_left (by omega)]; exact z1, z2⟩
  · have : n = h.length := by
      have := (List.getElem?_eq_some_iff.mp q).1
      rw [List.length_append] at this
      simp at this
      omega
    subst this
    have e : u = o := by simpa using q.symm
    subst e
    exact ⟨v, by rw [hl]; simp, new⟩
theorem Sim.hold (s : Sim B w σ H st) {o : O} {v : V} (r : RO B w H .tmp o v) : ∃ w', Lh [v] w w' ∧ Sim B w' σ H { st with h := st.h ++ [o] } := by
  rcases r.own0 with ⟨x, rfl, rx⟩ | ⟨c, a, rfl, t, hc, back⟩
  · refine ⟨{ w with hv := w.hv ++ [v] }, ⟨rfl, rfl, fun _ _ h => h, fun _ _ h => h, fun _ _ h => h, rfl⟩, s.h.hv, s.r.len, by simp [s.r.lenH], fun i o q => ?_, heldAll s.r.lenH (fun n o q => ?_) rfl rx.hv⟩
    · obtain ⟨z, z1, z2⟩ := s.r.slot i o q
      exact ⟨z, z1, z2.hv⟩
    · obtain ⟨z, z1, z2⟩ := s.r.held n o q
      exact ⟨z, z1, z2.hv⟩
  · obtain ⟨le, h1, h2, h3⟩ := s.retag (tg := .hold st.h.length) t hc trivial
    have ne : ∀ b, (w.T b).own → (w.set a (.hold st.h.length)).T b = w.T b := fun b z => Wd.set_ne (by rintro rfl; rw [t] at z; exact z)
    refine ⟨{ w.set a (.hold st.h.length) with hv := w.hv ++ [.ref a] }, ⟨rfl, rfl, le.fz, le.ce, le.m, rfl⟩, h1.hv, s.r.len, by simp [s.r.lenH], fun i o q => ?_, heldAll s.r.lenH (fun n o q => ?_) rfl ?_⟩
    · obtain ⟨z, z1, z2⟩ := s.r.slot i o q
      exact ⟨z, z1, (z2.mono le fun b t' => ⟨rfl, (ne b (by rw [t']; trivial)).trans t'⟩).hv⟩
    · obtain ⟨z, z1, z2⟩ := s.r.held n o q
      exact ⟨z, z1, (z2.mono le fun b t' => ⟨rfl, (ne b (by rw [t']; trivial)).trans t'⟩).hv⟩
    · exact (back _ _ _ Wd.set_same h2).hv
/-- the last held result goes to a name -/
theorem Sim.unhold (s : Sim B w σ H st) {h : List O} {o : O} {hv : List V} {v : V} (e1 : st.h = h ++ [o]) (e2 : w.hv = hv ++ [v]) (hi : i < σ.length) :
    ∃ w', w'.hv = hv ∧ Lx w w' ∧ Sim B w' (σ.set i (some v)) H { st with r := st.r.set i (some o), h := h } := by
  have hl : h.length = hv.length := by
    have := s.r.lenH
    rw [e1, e2] at this
    simpa using this
  obtain ⟨v', q1, q2⟩ := s.r.held h.length o (by rw [e1]; simp)
  have ev : v' = v := by
    rw [e2, hl] at q1
    simpa using q1.symm
  subst ev
  have held : ∀ {w' : Wd} {H' : Hp}, w'.hv = hv → (∀ n o u, n ≠ h.length → RO B w H (.hold n) o u → RO B w' H' (.hold n) o u) → ∀ (n : Nat) (u : O), h[n]? = some u → ∃ z, w'.hv[n]? = some z ∧ RO B w' H' (.hold n) u z := fun {w' H'} ew up n u q => by
    have hn := (List.getElem?_eq_some_iff.mp q).1
    obtain ⟨z, z1, z2⟩ := s.r.held n u (by rw [e1, List.getElem?_append_left hn]; exact q)
    rw [e2, List.getElem?_append_left (by omega)] at z1
    exact ⟨z, by rw [ew]; exact z1, up n u z (by omega) z2⟩
  rcases q2.own0 with ⟨x, rfl, rx⟩ | ⟨c, a, rfl, t, hc, back⟩
  · refine ⟨{ w with hv := hv }, rfl, ⟨rfl, rfl, fun _ _ h => h, fun _ _ h => h, fun _ _ h => h, rfl⟩, s.h.hv, ?_⟩
    have s2 := (s.setU hi rx).r
    exact ⟨s2.len, hl, fun i o q => let ⟨z, z1, z2⟩ := s2.slot i o q; ⟨z, z1, z2.hv⟩, held rfl fun n o u _ r => r.hv⟩
  · have f : Free1 w H a := .inr (.inl (by rw [t]; trivial))
    have le := s.h.leFree f (.slot i)
    obtain ⟨u, ho⟩ := hc.some
    have h1 := s.h.put (o := u) (tg := .slot i) f trivial fun u e => nomatch e
    rw [upd_self ho] at h1
    have ne : ∀ {b : Addr} {tg : Tag}, w.T b = tg → tg ≠ .hold h.length → (w.set a (.slot i)).T b = tg := fun {b tg} e n => by
      have hb : b ≠ a := by rintro rfl; exact n (e.symm.trans t)
      rw [Wd.set_ne hb, e]
    refine ⟨{ w.set a (.slot i) with hv := hv }, rfl, ⟨le.h0, le.t0, le.fz, le.ce, le.m, rfl⟩, h1.hv, by simp [s.r.len], hl, fun j o' q => ?_, held rfl fun n o u hn r => (r.mono le fun b t' => ⟨rfl, ne t' fun z => hn (by cases z; rfl)⟩).hv⟩
    by_cases hj : j = i
    · subst hj
      rw [List.getElem?_set_self (by rw [s.r.len]; exact hi)] at q
      cases q
      exact ⟨.ref a, by rw [List.getElem?_set_self hi], (back _ _ _ Wd.set_same (hc.mono le rfl)).hv⟩
    · rw [List.getElem?_set_ne (Ne.symm hj)] at q
      obtain ⟨v', q1, q2⟩ := s.r.slot j o' q
      exact ⟨v', by rw [List.getElem?_set_ne (Ne.symm hj)]; exact q1, (q2.mono le fun b t' => ⟨rfl, ne (tg := .slot j) t' (by simp)⟩).hv⟩
end
theorem a_h0 : PA X [] (tH B hNil) := paW pa_nil fun σ H Q ⟨w, st, st', s, hf, q⟩ => by
  cases hf
  exact q w [] H (Lh.nil w) s
theorem a_h {f : EvO} {g : EvH} {es : List Expr} (h1 : PE X e (tE B f)) (h2 : PA X es (tH B g)) (hs : starEach (e :: es) X.env = (false, eval e X.env) :: starEach es X.env := by rfl) : PA X (e :: es) (tH B (hCons f g)) :=
  paW (pa_cons h1 h2 hs) fun σ H Q ⟨w, st, st', s, hf, q⟩ => by
    unfold hCons at hf
    cases ea : f st with
    | none => rw [ea] at hf; cases hf
    | some p =>
      rw [ea, Option.bind_some] at hf
      refine ⟨w, st, p.1, p.2, s, ea, fun w1 v1 H1 l1 s1 r1 => ?_⟩
      obtain ⟨w2, l2, s2⟩ := s1.hold r1
      exact ⟨w2, _, st', s2, hf, fun w3 vs H3 l3 s3 => q w3 _ H3 (Lh.after l1 (l2.trans l3)) s3⟩
/-- a, b = x, y with plain names -/
def sPar (i j : Nat) (g : EvH) : EvS := fun st => if st.h.isEmpty then (g st).bind fun st' => match st'.h with
  | [a, b] => if i < st'.r.length ∧ j < st'.r.length then some (.nx, { st' with r := (st'.r.set i (some a)).set j (some b), h := [] }) else none
  | _ => none else none
theorem s_par {i j : Nat} {x y : Str} {a b : Expr} {g : EvH} {px py pt : Pos} {kt k2 pt2} (hc : X.calm = true) (hN : X.N.Nodup) (hi : X.N[i]? = some x) (hj : X.N[j]? = some y) (hij : i ≠ j)
    (hx : X.env.scope.names.lookup x = some .local) (hy : X.env.scope.names.lookup y = some .local) (ha : PA X [a, b] (tH B g))
    (hw : swappedStores [.Tuple [.Name x px, .Name y py] kt pt] (.Tuple [a, b] k2 pt2) X.env = pure (some [x, y]))
    (hs : swapsWithSole [.Tuple [.Name x px, .Name y py] kt pt] (.Tuple [a, b] k2 pt2) pos.line X.env = pure false := by rfl) :
    PS X (.Assign [.Tuple [.Name x px, .Name y py] kt pt] (.Tuple [a, b] k2 pt2) pos) (tS B (sPar i j g)) :=
  psW (ps_par hc hN hi hj hij hx hy ha hw hs) fun D σ H ⟨w, st, fl, st', s, hf, q⟩ => by
    unfold sPar at hf
    split at hf
    · rename_i he
      cases ea : g st with
      | none => rw [ea] at hf; cases hf
      | some st2 =>
        rw [ea, Option.bind_some] at hf
        refine ⟨w, st, st2, s, ea, fun w1 vs H1 l1 s1 => ?_⟩
        have h0 : w.hv = [] := by
          have := s.r.lenH
          rw [List.isEmpty_iff.mp he] at this
          exact List.length_eq_zero_iff.mp this.symm
        split at hf
        · rename_i a b eh
          split at hf
          · rename_i hlt
            cases hf
            have hv1 : w1.hv = vs := by rw [l1.hv, h0]; rfl
            have hl := s1.r.lenH
            rw [eh, hv1] at hl
            obtain ⟨v1, v2, rfl⟩ : ∃ v1 v2, vs = [v1, v2] := by
              match vs, hl with
              | [v1, v2], _ => exact ⟨v1, v2, rfl⟩
            have b1 : i < σ.length := by rw [← s1.r.len]; exact hlt.1
            have b2 : j < σ.length := by rw [← s1.r.len]; exact hlt.2
            obtain ⟨w2, k2, l2, s2⟩ := s1.unhold (h := [a]) (o := b) (hv := [v1]) (v := v2) (i := j) eh hv1 b2
            obtain ⟨w3, k3, l3, s3⟩ := s2.unhold (h := []) (o := a) (hv := []) (v := v1) (i := i) rfl k2 (by simpa using b1)
            refine ⟨v1, v2, rfl, ?_⟩
            have s3 : Sim B w3 ((σ.set j (some v2)).set i (some v1)) H1 { r := (st2.r.set j (some b)).set i (some a), S := st2.S, h := [] } := s3
            rw [List.set_comm _ _ (Ne.symm hij), List.set_comm _ _ (Ne.symm hij)] at s3
            exact q w3 _ H1 ((l1.lx.trans (l2.trans l3)).le (k3.trans h0.symm)) s3
          · cases hf
        · cases hf
    · cases hf
/-- a, b, c = x, y, z with plain names -/
def sPar3 (i j l : Nat) (g : EvH) : EvS := fun st => if st.h.isEmpty then (g st).bind fun st' => match st'.h with
  | [a, b, c] => if i < st'.r.length ∧ j < st'.r.length ∧ l < st'.r.length then some (.nx, { st' with r := ((st'.r.set i (some a)).set j (some b)).set l (some c), h := [] }) else none
  | _ => none else none
theorem s_par3 {i j l : Nat} {x y z : Str} {a b c : Expr} {g : EvH} {px py pz pt : Pos} {kt k2 pt2} (hc : X.calm = true) (hN : X.N.Nodup) (hi : X.N[i]? = some x) (hj : X.N[j]? = some y) (hl : X.N[l]? = some z) (hij : i ≠ j) (hil : i ≠ l) (hjl : j ≠ l)
    (hx : X.env.scope.names.lookup x = some .local) (hy : X.env.scope.names.lookup y = some .local) (hz : X.env.scope.names.lookup z = some .local) (ha : PA X [a, b, c] (tH B g))
    (hw : swappedStores [.Tuple [.Name x px, .Name y py, .Name z pz] kt pt] (.Tuple [a, b, c] k2 pt2) X.env = pure (some [x, y, z]))
    (hs : swapsWithSole [.Tuple [.Name x px, .Name y py, .Name z pz] kt pt] (.Tuple [a, b, c] k2 pt2) pos.line X.env = pure false := by rfl) :
    PS X (.Assign [.Tuple [.Name x px, .Name y py, .Name z pz] kt pt] (.Tuple [a, b, c] k2 pt2) pos) (tS B (sPar3 i j l g)) :=
  psW (ps_par3 hc hN hi hj hl hij hil hjl hx hy hz ha hw hs) fun D σ H ⟨w, st, fl, st', s, hf, q⟩ => by
    unfold sPar3 at hf
    split at hf
    · rename_i he
      cases ea : g st with
      | none => rw [ea] at hf; cases hf
      | some st2 =>
        rw [ea, Option.bind_some] at hf
        refine ⟨w, st, st2, s, ea, fun w1 vs H1 l1 s1 => ?_⟩
        have h0 : w.hv = [] := by
          have := s.r.lenH
          rw [List.isEmpty_iff.mp he] at this
          exact List.length_eq_zero_iff.mp this.symm
        split at hf
        · rename_i a b c eh
          split at hf
          · rename_i hlt
            cases hf
            have hv1 : w1.hv = vs := by rw [l1.hv, h0]; rfl
            have hlh := s1.r.lenH
            rw [eh, hv1] at hlh
            obtain ⟨v1, v2, v3, rfl⟩ : ∃ v1 v2 v3, vs = [v1, v2, v3] := by
              match vs, hlh with
              | [v1, v2, v3], _ => exact ⟨v1, v2, v3, rfl⟩
            have b1 : i < σ.length := by rw [← s1.r.len]; exact hlt.1
            have b2 : j < σ.length := by rw [← s1.r.len]; exact hlt.2.1
            have b3 : l < σ.length := by rw [← s1.r.len]; exact hlt.2.2
            obtain ⟨w2, k2, l2, s2⟩ := s1.unhold (h := [a, b]) (o := c) (hv := [v1, v2]) (v := v3) (i := l) eh hv1 b3
            obtain ⟨w3, k3, l3, s3⟩ := s2.unhold (h := [a]) (o := b) (hv := [v1]) (v := v2) (i := j) rfl k2 (by simpa using b2)
            obtain ⟨w4, k4, l4, s4⟩ := s3.unhold (h := []) (o := a) (hv := []) (v := v1) (i := i) rfl k3 (by simpa using b1)
            refine ⟨v1, v2, v3, rfl, ?_⟩
            have s4 : Sim B w4 (((σ.set l (some v3)).set j (some v2)).set i (some v1)) H1 { r := ((st2.r.set l (some c)).set j (some b)).set i (some a), S := st2.S, h := [] } := s4
            rw [List.set_comm _ _ (Ne.symm hij), List.set_comm (l := σ) _ _ (Ne.symm hil), List.set_comm _ _ (Ne.symm hjl), List.set_comm (l := st2.r.set l (some c)) _ _ (Ne.symm hij), List.set_comm (l := st2.r) _ _ (Ne.symm hil), List.set_comm (l := st2.r.set i (some a)) _ _ (Ne.symm hjl)] at s4
            exact q w4 _ H1 ((l1.lx.trans (l2.trans (l3.trans l4))).le (k4.trans h0.symm)) s4
          · cases hf
        · cases hf
    · cases hf
end
end MP

namespace MP
open PySem PySem.Spec PyProof.Rows L2

section
variable {X : Cx} {e e1 e2 e3 o : Expr} {st1 : Stmt} {body rest : List Stmt} {es : List Expr} {pos : Pos} {B : Bs} {w w' : Wd} {σ : L2.St} {H : Hp} {st : Stt} {a : Addr}

/-! ### a dict's content is changed -/
def getD (st : Stt) : Hn → Option (List (PyData × U))
  | .sl i => match st.r[i]? with
    | some (some (.od kvs)) => some kvs
    | some (some (.u (.ref l))) => match st.S[l]? with
      | some (.cd kvs) => some kvs
      | _ => none
    | _ => none
  | .u (.ref l) => match st.S[l]? with
    | some (.cd kvs) => some kvs
    | _ => none
  | _ => none
def putD (st : Stt) (kvs : List (PyData × U)) : Hn → Stt
  | .sl i => match st.r[i]? with
    | some (some (.od _)) => { st with r := st.r.set i (some (.od kvs)) }
    | some (some (.u (.ref l))) => { st with S := st.S.set l (.cd kvs) }
    | _ => st
  | .u (.ref l) => { st with S := st.S.set l (.cd kvs) }
  | _ => st
theorem cellD (s : Sim B w σ H st) {l : Nat} {v : V} {kvs : List (PyData × U)} (r : RU B w (.ref l) v) (h : (match st.S[l]? with
      | some (.cd kvs) => some kvs
      | _ => none) = some kvs) :
    ∃ a, v = .ref a ∧ RDict B w H a kvs ∧ ∀ (u : HO) kvs', RDict B w (upd H a u) a kvs' → Sim B w σ (upd H a u) { st with S := st.S.set l (.cd kvs') } := by
  obtain ⟨a, hm, rfl⟩ := r
  split at h
  · rename_i ys hc
    cases h
    obtain ⟨t, q1⟩ := s.h.cells l a _ hm hc
    exact ⟨a, rfl, q1, fun u kvs' r' => s.cellC hm (List.getElem?_eq_some_iff.mp hc).1 r'⟩
  · cases h
theorem getD_ok (s : Sim B w σ H st) : ∀ {x : Hn} {v : V} {kvs : List (PyData × U)}, RH B w σ x v → getD st x = some kvs →
    ∃ a, v = .ref a ∧ RDict B w H a kvs ∧ ∀ (u : HO) kvs', RDict B w (upd H a u) a kvs' → Sim B w σ (upd H a u) (putD st kvs' x)
  | .sl i, v, kvs, r, h => by
    have h : (match st.r[i]? with
      | some (some (.od kvs)) => some kvs
      | some (some (.u (.ref l))) => (match st.S[l]? with
        | some (.cd kvs) => some kvs
        | _ => none)
      | _ => none) = some kvs := h
    have r : σ[i]? = some (some v) := r
    split at h
    · rename_i ys ho
      cases h
      obtain ⟨v', h1, a, rfl, t, q1⟩ := s.r.slot i _ ho
      rw [r] at h1
      cases h1
      refine ⟨a, rfl, q1, fun u kvs' r' => ?_⟩
      have := s.slotC (o' := .od kvs') (u := u) ho r t ⟨a, rfl, t, r'⟩
      unfold putD
      simp only [ho]
      exact this
    · rename_i l ho
      obtain ⟨v', h1, h2⟩ := s.r.slot i _ ho
      rw [r] at h1
      cases h1
      obtain ⟨a, e, q1, q2⟩ := cellD s h2 h
      refine ⟨a, e, q1, fun u kvs' r' => ?_⟩
      unfold putD
      simp only [ho]
      exact q2 u kvs' r'
    · cases h
  | .u (.ref l), v, kvs, r, h => by
    obtain ⟨a, e, q1, q2⟩ := cellD s r h
    exact ⟨a, e, q1, fun u kvs' r' => q2 u kvs' r'⟩
  | .u (.v _), _, _, _, h => by cases h
  | .u (.scr _), _, _, _, h => by cases h
  | .u (.fd _), _, _, _, h => by cases h

/-! ### targets -/
abbrev EvG := U → Stt → Option Stt
abbrev EvGs := List U → Stt → Option Stt
def tG (B : Bs) (g : EvG) : TG := fun v σ H Q => ∃ w st x st', Sim B w σ H st ∧ RU B w x v ∧ g x st = some st' ∧ ∀ w' σ' H', Le w w' → Sim B w' σ' H' st' → Q σ' H'
def tGs (B : Bs) (g : EvGs) : TGs := fun vs σ H Q => ∃ w st xs st', Sim B w σ H st ∧ RUs B w xs vs ∧ g xs st = some st' ∧ ∀ w' σ' H', Le w w' → Sim B w' σ' H' st' → Q σ' H'
theorem pgW {t t' : TG} (h : PG X e t) (k : ∀ v σ H Q, t' v σ H Q → t v σ H Q) : PG X e t' := ⟨fun pins s σ H v u Q I r q => h.run pins s σ H v u Q I r (k v σ H Q q)⟩
theorem pgsW {t t' : TGs} (h : PGs X es t) (k : ∀ v σ H Q, t' v σ H Q → t v σ H Q) : PGs X es t' := ⟨fun pins s σ H v u Q I r q => h.run pins s σ H v u Q I r (k v σ H Q q)⟩
def gN (i : Nat) : EvG := fun x st => if i < st.r.length then some { st with r := st.r.set i (some (.u x)) } else none
theorem g_nm {i : Nat} {x : Str} (hN : X.N.Nodup) (hi : X.N[i]? = some x) (hx : Loc X.env.scope x) (hf : X.fn x = true ∨ X.env.scope.names.lookup x = some .local := by first | exact .inl rfl | exact .inr rfl | assumption) : PG X (.Name x pos) (tG B (gN i)) :=
  pgW (pg_name hN hi hx hf) fun v σ H Q ⟨w, st, x, st', s, r, hg, q⟩ => by
    unfold gN at hg
    split at hg
    · rename_i hlt
      cases hg
      exact q w _ H (Le.rfl' w) (s.setU (by rw [← s.r.len]; exact hlt) r)
    · cases hg
def gNo : EvGs := fun xs st => match xs with
  | [] => some st
  | _ => none
def gCo (g : EvG) (gs : EvGs) : EvGs := fun xs st => match xs with
  | x :: r => (g x st).bind (gs r)
  | [] => none
theorem gs_nil : PGs X [] (tGs B gNo) := pgsW pgs_nil fun vs σ H Q ⟨w, st, xs, st', s, r, hg, q⟩ => by
  cases r with
  | nil =>
    cases hg
    exact ⟨rfl, q w σ H (Le.rfl' w) s⟩
  | cons _ _ => cases hg
theorem gs_cons {g : EvG} {gs : EvGs} (h1 : PG X e (tG B g)) (h2 : PGs X es (tGs B gs)) (hs : (assignEach (e :: es) X.env).map (·.2) = assign e X.env :: (assignEach es X.env).map (·.2) := by rfl) : PGs X (e :: es) (tGs B (gCo g gs)) :=
  pgsW (pgs_cons h1 h2 hs) fun vs σ H Q ⟨w, st, xs, st', s, r, hg, q⟩ => by
    cases r with
    | nil => cases hg
    | @cons x v xs vs r rr =>
      have hg : (g x st).bind (gs xs) = some st' := hg
      cases ea : g x st with
      | none => rw [ea] at hg; cases hg
      | some st2 =>
        rw [ea, Option.bind_some] at hg
        exact ⟨v, vs, rfl, w, st, x, st2, s, r, ea, fun w' σ' H' l s' => ⟨w', st2, xs, st', s', RUs.mono l rr, hg, fun w2 σ2 H2 l2 s2 => q w2 σ2 H2 (l.trans l2) s2⟩⟩
theorem RpAll.us {F : Wd} : ∀ {ds : List PyData} {vs : List V}, RpAll F.F ds vs → RUs B F (ds.map .v) vs
  | _, _, .nil => .nil
  | _, _, .cons r t => .cons r t.us
def gT (n : Nat) (gs : EvGs) : EvG := fun x st => match x with
  | .v (.tuple ds) => if ds.length = n then gs (ds.map .v) st else none
  | _ => none
def gL (n : Nat) (gs : EvGs) : EvG := fun x st => match x with
  | .v (.list ds) => if ds.length = n then gs (ds.map .v) st else none
  | _ => none
theorem gT_ok {n : Nat} {gs : EvGs} {K : PySem.W.Frag} {v : V} {Q : L2.St → Hp → Prop} (h : tG B (gT n gs) v σ H Q) : gTup K n (tGs B gs) v σ H Q := by
  obtain ⟨w, st, x, st', s, r, hg, q⟩ := h
  unfold gT at hg
  split at hg
  · rename_i ds
    split at hg
    · rename_i hl
      cases (show Rp w.F (.tuple ds) v from r) with
      | @tup a ob vs ds ex dx ra => exact ⟨a, vs, rfl, .inl (.inr ⟨ob, s.h.sub _ _ ex⟩), by rw [← ra.length]; exact hl, w, st, _, st', s, ra.us, hg, q⟩
    · cases hg
  · cases hg
theorem g_tup {k n : Nat} {gs : EvGs} (hc : X.calm = true) (h : PGs X es (tGs B gs)) (hn : (assignEach es X.env).length = n := by rfl) (hst : (assignEach es X.env).findIdx? (·.1) = none := by rfl) : PG X (.Tuple es k pos) (tG B (gT n gs)) :=
  pgW (pg_tup hc h hn hst) fun v σ H Q h => gT_ok h
theorem g_lst {k n : Nat} {gs : EvGs} (hc : X.calm = true) (h : PGs X es (tGs (bsX X) gs)) (hn : (assignEach es X.env).length = n := by rfl) (hst : (assignEach es X.env).findIdx? (·.1) = none := by rfl) : PG X (.Tuple es k pos) (tG (bsX X) (gL n gs)) :=
  pgW (pg_lst hc h hn hst) fun v σ H Q ⟨w, st, x, st', s, r, hg, q⟩ => by
    unfold gL at hg
    split at hg
    · rename_i ds
      split at hg
      · rename_i hl
        cases (show Rp w.F (.list ds) v from r) with
        | @lst a vs ds ex ra => exact ⟨a, vs, rfl, SqL.of (s.h.sub _ _ ex), by rw [← ra.length]; exact hl, w, st, _, st', s, ra.us, hg, q⟩
      · cases hg
    · cases hg
/-- o[i] = .. -/
def store (st : Stt) (h : Hn) (y x : U) : Option Stt := match getL st h, y, x with
  | some xs, .v (.int i), .v d => (ixN xs.length i).map fun j => putL st (xs.set j d) h
  | _, .v k, x => match getD st h with
    | some kvs => if kOk kvs k && decide (kvs.length < 16777216) then some (putD st (dput kvs k x) h) else none
    | none => none
  | _, _, _ => none
def rSto (B : Bs) : TSet := fun o i v H Q => rSetL o i v H Q ∨ ∃ (w : Wd) (kvs : List (PyData × U)) (k : PyData) (z : U) (a : Addr), o = .ref a ∧ (∀ a o, w.F a = some o → H a = some o) ∧ RDict B w H a kvs ∧ Rp w.F k i ∧ RU B w z v ∧ kOk kvs k = true ∧ kvs.length < sizeLine ∧
  ∀ u, RDict B w (upd H a u) a (dput kvs k z) → Q (upd H a u)
theorem set_sto (hu : X.A.units + 64 < cLine) : PSet X (rSto (bsX X)) := by
  intro pins s σ H o i v ov iv u Q I ro ri rv h
  rcases h with h | ⟨w, kvs, k, z, a, rfl, hF, hd, rk, rz, ho, hl, q⟩
  · exact set_list pins s σ H o i v ov iv u Q I ro ri rv h
  · cases ro
    exact dd_set hu I hF hd ho hl rk ri rz rv fun o s' I' r' => ⟨_, I', q o r'⟩
theorem store_ok {h : Hn} {y x : U} {st' : Stt} {vo vy vx : V} {Q : L2.St → Hp → Prop} (s : Sim B w σ H st) (e : store st h y x = some st') (rh : RH B w σ h vo) (ry : RU B w y vy) (rx : RU B w x vx)
    (q : ∀ H', Sim B w σ H' st' → Q σ H') : rSto B vo vy vx H fun H3 => Q σ H3 := by
  have dict : ∀ {k : PyData}, y = .v k → (match getD st h with
      | some kvs => if kOk kvs k && decide (kvs.length < 16777216) then some (putD st (dput kvs k x) h) else none
      | none => none) = some st' → rSto B vo vy vx H fun H3 => Q σ H3 := fun {k} ey e' => by
    subst ey
    clear e
    have e := e'
    split at e
    · rename_i kvs ed
      split at e
      · rename_i hc
        cases e
        simp only [Bool.and_eq_true, decide_eq_true_eq] at hc
        obtain ⟨a, rfl, r1, r2⟩ := getD_ok s rh ed
        exact .inr ⟨w, kvs, k, x, a, rfl, s.h.sub, r1, ry, rx, hc.1, by rw [line_eq]; exact hc.2, fun u r' => q _ (r2 u _ r')⟩
      · cases e
    · cases e
  unfold store at e
  split at e
  · rename_i xs i d eL
    cases ej : ixN xs.length i with
    | none => rw [ej] at e; cases e
    | some j =>
      rw [ej] at e
      cases e
      obtain ⟨a, vs, rfl, r1, r2, r3⟩ := getL_ok s rh eL
      cases ry
      exact .inl ⟨a, vs, i, j, rfl, rfl, r1, by rw [← r2.length]; exact ej, q _ (r3 _ _ (r2.set rx j))⟩
  · exact dict rfl e
  · cases e
def gS (f : EvR) (g : EvU) : EvG := fun x st => (f st).bind fun p => (g p.2).bind fun q => store q.2 p.1 q.1 x
theorem g_sub {k : Nat} (hr : Room k X.A) {f : EvR} {g : EvU} (ho : PE X e1 (tR (bsX X) f)) (hi : PE X e2 (tU (bsX X) g))
    (ha : ∀ v, assign (.Subscript e1 e2 pos) X.env v = (do
      let ov ← holding [v] (eval e1 X.env)
      let iv ← holding [v, ov] (eval e2 X.env)
      standAt pos
      holding [v, ov, iv] (setItem ov iv v)
      release [v, ov, iv] []) := by intro _; rfl) : PG X (.Subscript e1 e2 pos) (tG (bsX X) (gS f g)) :=
  pgW (pg_sub ho hi (set_sto (by have := room65 hr; omega)) ha) fun v σ H Q ⟨w, st, x, st', s, r, hg, q⟩ => by
    unfold gS at hg
    cases ea : f st with
    | none => rw [ea] at hg; cases hg
    | some p =>
      rw [ea, Option.bind_some] at hg
      cases eb : g p.2 with
      | none => rw [eb] at hg; cases hg
      | some p2 =>
        rw [eb, Option.bind_some] at hg
        exact ⟨w, st, p.1, p.2, s, ea, fun w1 v1 H1 l1 s1 r1 => ⟨w1, p.2, p2.1, p2.2, s1, eb, fun w2 v2 H2 l2 s2 r2 =>
          store_ok s2 hg (r1.mono l2) r2 (r.mono (l1.trans l2)) fun H' s' => q w2 σ H' (l1.trans l2) s'⟩⟩
/-- target = value -/
def sAsg (f : EvU) (g : EvG) : EvS := fun st => (f st).bind fun p => (g p.1 p.2).map fun st' => (.nx, st')
theorem s_asg {tg : Expr} {f : EvU} {g : EvG} (he : PE X e (tU B f)) (hg : PG X tg (tG B g)) (hs : swapsWithSole [tg] e pos.line X.env = pure false := by rfl) (hw : swappedStores [tg] e X.env = pure none := by rfl)
    (h1 : (assignEach [tg] X.env).map (·.2) = [assign tg X.env] := by rfl) : PS X (.Assign [tg] e pos) (tS B (sAsg f g)) :=
  psW (ps_asg he hg hs hw h1) fun D σ H ⟨w, st, fl, st', s, hf, q⟩ => by
    unfold sAsg at hf
    cases ea : f st with
    | none => rw [ea] at hf; cases hf
    | some p =>
      rw [ea, Option.bind_some] at hf
      cases eb : g p.1 p.2 with
      | none => rw [eb] at hf; cases hf
      | some st2 =>
        rw [eb] at hf
        cases hf
        exact ⟨w, st, p.1, p.2, s, ea, fun w1 v1 H1 l1 s1 r1 => ⟨w1, p.2, p.1, _, s1, r1, eb, fun w2 σ2 H2 l2 s2 => q w2 σ2 H2 (l1.trans l2) s2⟩⟩

/-! ### while -/
def wLoop (c : EvT) (b : EvS) : Nat → EvS
  | 0, _ => none
  | n + 1, st => (c st).bind fun p => if p.1 then (b p.2).bind fun q => match q.1 with
    | .nx => wLoop c b n q.2
    | .ct => wLoop c b n q.2
    | .bk => some (.nx, q.2)
    | .rt o => some (.rt o, q.2)
    else some (.nx, p.2)
open Classical in
/-- .. as often as it takes -/
noncomputable def sWhile (c : EvT) (b : EvS) : EvS := fun st => if h : ∃ n p, wLoop c b n st = some p then some (Classical.choose (Classical.choose_spec h)) else none
theorem wLoop_mono {c : EvT} {b : EvS} : ∀ {n m : Nat} {st : Stt} {p : Fl × Stt}, wLoop c b n st = some p → n ≤ m → wLoop c b m st = some p
  | 0, _, _, _, h, _ => by cases h
  | n + 1, 0, _, _, _, h => by omega
  | n + 1, m + 1, st, p, h, hn => by
    unfold wLoop at h ⊢
    cases ea : c st with
    | none => rw [ea] at h; cases h
    | some q =>
      rw [ea, Option.bind_some] at h
      rw [Option.bind_some]
      cases e1 : q.1 with
      | false =>
        rw [e1] at h
        exact h
      | true =>
        rw [e1] at h
        simp only [if_true] at h ⊢
        cases eb : b q.2 with
        | none => rw [eb] at h; cases h
        | some z =>
          obtain ⟨fl, st2⟩ := z
          rw [eb, Option.bind_some] at h
          rw [Option.bind_some]
          cases fl with
          | nx => exact wLoop_mono h (by omega)
          | ct => exact wLoop_mono h (by omega)
          | bk => exact h
          | rt _ => exact h
theorem sWhile_of {c : EvT} {b : EvS} {n : Nat} {st : Stt} {p : Fl × Stt} (h : wLoop c b n st = some p) : sWhile c b st = some p := by
  have hh : ∃ n p, wLoop c b n st = some p := ⟨n, p, h⟩
  have := Classical.choose_spec (Classical.choose_spec hh)
  have h1 := wLoop_mono this (Nat.le_max_left _ n)
  have h2 := wLoop_mono h (Nat.le_max_right (Classical.choose hh) n)
  rw [h1] at h2
  unfold sWhile
  rw [dif_pos hh, h2]
theorem sWhile_n {c : EvT} {b : EvS} {st : Stt} {p : Fl × Stt} (h : sWhile c b st = some p) : ∃ n, wLoop c b n st = some p := by
  unfold sWhile at h
  split at h
  · rename_i hh
    cases h
    exact ⟨_, Classical.choose_spec (Classical.choose_spec hh)⟩
  · cases h
theorem s_while {c : EvT} {b : EvS} (hp : PassesOwn (model X.prog X.w) X.A X.env X.xe) (hc : PT X e (tTs B c)) (hb : PSs X body (tS B b)) : PS X (.While e body [] pos) (tS B (sWhile c b)) :=
  psW (ps_while hp hc hb) fun D σ H ⟨w, st, fl, st', s, hf, q⟩ => by
    obtain ⟨n, hn⟩ := sWhile_n hf
    refine ⟨fun m σ H => ∃ w1 st1, Le w w1 ∧ Sim B w1 σ H st1 ∧ wLoop c b m st1 = some (fl, st'), ⟨n, w, st, Le.rfl' w, s, hn⟩, ?_⟩
    rintro m σ1 H1 ⟨w1, st1, l1, s1, hm⟩
    cases m with
    | zero => cases hm
    | succ m =>
      unfold wLoop at hm
      cases ea : c st1 with
      | none => rw [ea] at hm; cases hm
      | some p =>
        rw [ea, Option.bind_some] at hm
        refine ⟨w1, st1, p.1, p.2, s1, ea, fun w2 H2 l2 s2 => ?_⟩
        cases hp1 : p.1 with
        | false =>
          rw [hp1] at hm
          cases hm
          rw [if_neg Bool.false_ne_true]
          exact q w2 σ1 H2 (l1.trans l2) s2
        | true =>
          rw [hp1] at hm
          simp only [if_true] at hm ⊢
          cases eb : b p.2 with
          | none => rw [eb] at hm; cases hm
          | some z =>
            obtain ⟨fl2, st3⟩ := z
            rw [eb, Option.bind_some] at hm
            refine ⟨fun σ' H' => ∃ m', m' < m + 1 ∧ ∃ w1 st1, Le w w1 ∧ Sim B w1 σ' H' st1 ∧ wLoop c b m' st1 = some (fl, st'), fun _ _ h => h, w2, p.2, fl2, st3, s2, eb, ?_⟩
            cases fl2 with
            | nx => exact fun w3 σ3 H3 l3 s3 => ⟨m, by omega, w3, st3, l1.trans (l2.trans l3), s3, hm⟩
            | ct => exact fun w3 σ3 H3 l3 s3 => ⟨m, by omega, w3, st3, l1.trans (l2.trans l3), s3, hm⟩
            | bk =>
              cases hm
              exact fun w3 σ3 H3 l3 s3 => q w3 σ3 H3 (l1.trans (l2.trans l3)) s3
            | rt o =>
              cases hm
              exact fun w3 v σ3 H3 l3 s3 r3 => q w3 v σ3 H3 (l1.trans (l2.trans l3)) s3 r3
end
end MP

namespace MP
open PySem PySem.Spec PyProof.Rows L2

/-! ## what is walked -/
/-- a list's walk or a tuple's -/
inductive Kd where
  | l
  | t
def SqK (K : PySem.W.Frag) (H : Hp) (k : Kd) (a : Addr) (xs : List V) : Prop := match k with
  | .l => SqL K H a xs
  | .t => SqT K H a xs
def ItK (k : Kd) (h : Heap) (it a : Addr) (i : Nat) : Prop := match k with
  | .l => h.IsListIter it a i
  | .t => h.IsTupleIter it a i
def OfK (k : Kd) (h : Heap) (a : Addr) (us : Array Value) : Prop := match k with
  | .l => h.IsList a us
  | .t => h.IsTuple a us
def itO (k : Kd) (a : Addr) : Obj := match k with
  | .l => { cls := .type "list_iterator", data := .fields #[.ref a, .int 0 0] }
  | .t => { cls := .type "tuple_iterator", data := .fields #[.ref a, .int 0 0] }
section
variable {P : Program} {w : World} {A : Around} {K : PySem.W.Frag} {k k2 : Kd} {h h2 : Heap} {it a b : Addr} {i : Nat} {us : Array Value}
theorem drawsK (hh : A.handled = none) (hne : a ≠ it) : Draws P w A it [it, a] us.size (fun i v => us[i]? = some v) (fun i h => ItK k h it a i ∧ OfK k h a us) := by
  cases k with
  | l => exact Draws.list hh it a hne us
  | t => exact Draws.tuple hh it a hne us
theorem beginsK : Begins (.ref a) (itO k a) fun h => OfK k h a us := by
  cases k with
  | l => exact begins_list a us
  | t => exact begins_tuple a us
theorem ItK.at' (x : ItK k h it a i) (f : ∀ o, h.get? it = some o → h2.get? it = some o) : ItK k h2 it a i := by
  cases k with
  | l => exact Heap.IsListIter.at x f
  | t => exact Heap.IsTupleIter.at x f
theorem ItK.obj (x : ItK k h it a i) : ∃ o, h.get? it = some o ∧ ∀ v, o.data ≠ .cell v := by
  cases k with
  | l =>
    obtain ⟨o, e, _, d⟩ := x
    exact ⟨o, e, fun v z => by rw [d] at z; cases z⟩
  | t =>
    obtain ⟨o, e, _, d⟩ := x
    exact ⟨o, e, fun v z => by rw [d] at z; cases z⟩
theorem ItK.new (e : h.get? it = some (itO k a)) : ItK k h it a 0 := by
  cases k with
  | l => exact ⟨_, e, rfl, rfl⟩
  | t => exact ⟨_, e, rfl, rfl⟩
theorem OfK.lt (x : OfK k h a us) : a < h.objs.size := by
  cases k with
  | l =>
    obtain ⟨o, e, _⟩ := x
    exact Heap.lt_size e
  | t =>
    obtain ⟨o, e, _⟩ := x
    exact Heap.lt_size e
theorem OfK.ne {b : Addr} {o : Obj} {n : String} (x : OfK k h a us) (e : h.get? b = some o) (c : o.cls = .type n) (n1 : n ≠ "list") (n2 : n ≠ "tuple") : b ≠ a := by
  rintro rfl
  cases k with
  | l =>
    obtain ⟨o2, g2, c2, _⟩ := x
    rw [e] at g2
    cases g2
    rw [c] at c2
    exact n1 (Value.type.inj c2)
  | t =>
    obtain ⟨o2, g2, c2, _⟩ := x
    rw [e] at g2
    cases g2
    rw [c] at c2
    exact n2 (Value.type.inj c2)
theorem ItK.ne (x : ItK k h it a i) (y : OfK k2 h b us) : it ≠ b := by
  cases k with
  | l =>
    obtain ⟨o1, g1, c1, _⟩ := x
    exact y.ne g1 c1 (by decide) (by decide)
  | t =>
    obtain ⟨o1, g1, c1, _⟩ := x
    exact y.ne g1 c1 (by decide) (by decide)
theorem sqK {X : Cx} {pins : List (Addr × Obj)} {σ : L2.St} {H : Hp} {s : Shared} {xs : List V} (I : Inv X pins σ H s) (q : SqK X.K H k a xs) : ∃ ws : List Value, Vals xs ws ∧ OfK k s.heap a ws.toArray ∧ xs.length ≤ sizeLine := by
  cases k with
  | l =>
    obtain ⟨ws, r, p, z⟩ := I.list q
    exact ⟨ws, r, p.isList, z⟩
  | t => exact let ⟨ws, r, p, z⟩ := I.tuple q; ⟨ws, r, p, z⟩
theorem sqK_inj {X : Cx} {pins : List (Addr × Obj)} {σ : L2.St} {H : Hp} {s : Shared} {xs ys : List V} (I : Inv X pins σ H s) (q : SqK X.K H k a xs) (q2 : SqK X.K H k a ys) : xs = ys := by
  cases k with
  | l => exact I.list_inj q q2
  | t => exact I.tuple_inj q q2
end

/-! ### enumerate -/
def IeK (K : PySem.W.Frag) (k : Kd) (a : Addr) : It where
  go := fun i H => ∃ (xs : List V) (x : V), SqK K H k a xs ∧ xs[i]? = some x
  yld := fun i H v H' => ∃ T x, v = .ref T ∧ H T = none ∧ H' = upd H T (.tup [.int (i : Nat), x]) ∧ ∀ xs, SqK K H k a xs → xs[i]? = some x
  stop := fun i H => ∃ xs : List V, SqK K H k a xs ∧ xs.length = i
theorem turnE {P : Program} {w : World} {K : PySem.W.Frag} {ts : List Expr} {m : Nat} {tpos : Pos} (k : Kd) (a en it : Addr) :
    Turn P w K (.Tuple ts m tpos) (IeK K k a) [en, it] en (fun i h => (∃ old, IsEnum h en it ((i : Nat) : Int) old) ∧ ItK k h it a i ∧ en ≠ it) where
  mem := List.mem_cons_self
  obj := fun i h st b hb => by
    obtain ⟨⟨old, he⟩, hi, _⟩ := st
    rcases List.mem_cons.mp hb with rfl | hb
    · exact ⟨_, he, fun v q => nomatch q⟩
    · obtain rfl := List.mem_singleton.mp hb
      exact hi.obj
  keep := fun i h h' st kp => ⟨st.1.elim fun old he => ⟨old, kp en (by simp) _ he⟩, st.2.1.at' fun o q => kp it (by simp) o q, st.2.2⟩
  item := by
    rintro X rfl rfl rfl hc i pins s σ H E I hf ⟨⟨old, he⟩, hit, hne⟩ ⟨xs, x, hq, hx⟩
    obtain ⟨ws, rv, p, hz⟩ := sqK I hq
    have hd : X.A.handled = none := I.ok.hd hc
    have hi : i < ws.toArray.size := by
      rw [List.size_toArray, ← rv.length]
      exact (List.getElem?_eq_some_iff.mp hx).1
    have ite : it ≠ a := hit.ne p
    have ena : en ≠ a := p.ne he rfl (by decide) (by decide)
    have D := drawsK (P := X.prog) (w := X.w) (A := X.A.in1) (k := k) (us := ws.toArray) (it := it) (a := a) hd (Ne.symm ite)
    have elt : en < s.heap.objs.size := Heap.lt_size he
    have ilt : it < s.heap.objs.size := by
      obtain ⟨o, e, _⟩ := hit.obj
      exact Heap.lt_size e
    refine wpAny_pyNext_enum_itemD D he ⟨hit, p⟩ hi hne (by simp [hne, ena]) fun z h' tk hz' ho st' hT hsz kp => ?_
    refine ⟨_, rfl, wpAny_letOwnedTupleGo_enum (s := { s with heap := h', toks := tk + 1 }) ho fun h2 he2 sb => ?_⟩
    obtain ⟨u, hu, ru⟩ := rv.get hx
    have ez : z = u := by
      have : ws.toArray[i]? = some u := by simpa using hu
      rw [this] at hz'
      exact (Option.some.inj hz').symm
    subst ez
    have hT2 : h2.get? s.heap.objs.size = some { cls := .type "tuple", data := .seq #[.int i tk, z] } := (sb.2 _ (Nat.ne_of_gt elt)).trans hT
    have new : ObjOk X.prog X.w (upd H s.heap.objs.size (.tup [.int (i : Nat), x])) h2 s.heap.objs.size (.tup [.int (i : Nat), x]) :=
      ⟨by show 2 ≤ sizeLine; decide, [.int i tk, z], .cons ⟨_, rfl⟩ (.cons ru .nil), _, hT2, rfl, _, rfl⟩
    have J : Inv X pins σ (upd H s.heap.objs.size (.tup [.int (i : Nat), x])) { s with heap := h2, toks := tk + 1 } :=
      I.turnedNew (ch := [en, it]) (fun b ob hb q => (sb.2 b (by rintro rfl; simp at hb)).trans (kp b ob (by rintro rfl; simp at hb) (by rintro rfl; simp at hb) q)) hf (Nat.le_refl _) new
    refine ⟨.ref s.heap.objs.size, _, J, rfl, ⟨_, x, rfl, I.hok.fresh (Nat.le_refl _), rfl, fun ys hy => by rw [sqK_inj I hy hq]; exact hx⟩, ⟨⟨z, ?_⟩, st'.1.at' fun o q => (sb.2 it (Ne.symm hne)).trans q, hne⟩, fun b hb => ?_⟩
    · rw [show ((i + 1 : Nat) : Int) = (i : Int) + 1 by omega]
      exact he2
    · have hlt : b < s.heap.objs.size := by
        rcases List.mem_cons.mp hb with rfl | hb
        · exact elt
        · obtain rfl := List.mem_singleton.mp hb
          exact ilt
      rw [upd_ne (Nat.ne_of_lt hlt)]
      exact (hf b hb).1
  done := by
    rintro X rfl rfl rfl hc i pins s σ H E I hf ⟨⟨old, he⟩, hit, hne⟩ ⟨xs, hq, rfl⟩
    obtain ⟨ws, rv, p, hz⟩ := sqK I hq
    have ite : it ≠ a := hit.ne p
    have D := drawsK (P := X.prog) (w := X.w) (A := X.A.in1) (k := k) (us := ws.toArray) (it := it) (a := a) (I.ok.hd hc : X.A.handled = none) (Ne.symm ite)
    obtain ⟨f0, f1, f2, f3, f4, f5⟩ := hf it (by simp)
    have el : ws.toArray.size = xs.length := by rw [List.size_toArray, rv.length]
    exact wpAny_pyNext_enum_endD D he (by rw [el]; exact ⟨hit, p⟩) fun h' eb => ⟨rfl, I.turned (t' := s.toks) (fun b o hb q => eb b o hb q) f0 f1 f3 f4 f5⟩
  self := fun A i s Q E st q => st.1.elim fun _ he => wpAny_pyIter_enum he q
theorem meets_en1 {v : Value} {o : Obj} {C : Heap → Prop} (G : Begins v o C) :
    Meets (Builtin.«enumerate.__new__» ⟨[.type "enumerate", v], []⟩) (fun _ R s => C s.heap ∧
      R (.ok (.ret (.ref (s.heap.push o).objs.size))) { s with heap := (s.heap.push o).push { cls := .type "enumerate", data := .fields #[.none, .bool false, .ref s.heap.objs.size, rawInt 0, .none, .none] } }) :=
  .of_wp fun P w A R s hs => by
    obtain ⟨hp, gg, dd, tk, os⟩ := s
    obtain ⟨h1, hr⟩ := hs
    have sub1 := sub_enumerate
    have gi : ∀ {A' : Around} {E : Value → Shared → Prop} {Q : Value → Shared → Prop}, Q (.ref hp.objs.size) ⟨hp.push o, gg, dd, tk, os⟩ → wpAny (model P w) A' (pyIter v) Q E ⟨hp, gg, dd, tk, os⟩ :=
      fun q => G.iter P w _ _ ⟨hp, gg, dd, tk, os⟩ _ h1 q
    wp_walk using gi
    refine wpAny_stack_any fun st => wpAny_pure ?_
    split
    · rename_i c _ _ _ _ _
      cases (c == Value.type "enumerate") <;> (wp_walk using gi; exact ⟨_, rfl, hr⟩)
    · wp_walk using gi
      exact ⟨_, rfl, hr⟩
theorem en1_call {P : Program} {w : World} {A : Around} {E : Value → Shared → Prop} {s : Shared} {v : Value} {o : Obj} {C : Heap → Prop} {Q : Value → Shared → Prop} (G : Begins v o C) (h1 : C s.heap)
    (q : ∀ h', IsEnum h' (s.heap.objs.size + 1) s.heap.objs.size 0 .none → h'.get? s.heap.objs.size = some o → (∀ b u, s.heap.get? b = some u → h'.get? b = some u) → Q (.ref (s.heap.objs.size + 1)) { s with heap := h' }) :
    wpAny (model P w) A (call (.type "enumerate") [v]) Q E s := by
  refine callType_new F.called_enumerate (by decide) (F.typeCall_enumerate_1 _) (F.newCall_enumerate_1 _) (fun obj => F.args_object_init_2 obj _) F.entry_enumerate_new (meets_en1 G) ⟨h1, ?_⟩
  have z1 : (s.heap.push o).objs.size = s.heap.objs.size + 1 := Heap.size_push ..
  have he := Heap.get?_push_size (s.heap.push o) (o := { cls := .type "enumerate", data := .fields #[.none, .bool false, .ref s.heap.objs.size, rawInt 0, .none, .none] }) rfl
  show _ ∧ _
  rw [z1] at he ⊢
  exact ⟨⟨_, he, rfl⟩, q _ he (Heap.get?_push_of_some _ (Heap.get?_push_size _ G.free)) fun b u e => Heap.get?_push_of_some _ (Heap.get?_push_of_some _ e)⟩
def iEnK (K : PySem.W.Frag) (ta : TA) : TI := fun σ H R => ta σ H fun vs H1 => ∃ k a xs, vs = [.ref a] ∧ SqK K H1 k a xs ∧ R (IeK K k a) H1
theorem pi_enK {X : Cx} {e : Expr} {ta : TA} {p pos tpos : Pos} {ts : List Expr} {m : Nat} (hg : Gl X "enumerate") (hm : X.mg "enumerate" = none) (ha : PA X [e] ta) (hs : starEach [e] X.env = [(false, eval e X.env)] := by rfl) :
    PI X (.Tuple ts m tpos) (.Call (.Name "enumerate" p) [e] [] pos) (iEnK X.K ta) := by
  refine ⟨fun pins s σ H R I h => Call_ (ld_blt I hg hm boot_enumerate (PyProof.Rows.callWith_type1 (thn (ha.run pos pins s σ H _ I h) ?_) hs rfl))⟩
  rintro us s1 ⟨vs, H1, I1, r1, k, a, xs, rfl, hq, q⟩
  obtain ⟨u, rfl, ra⟩ := vals1 r1
  cases ra
  obtain ⟨ws, rv, p', hz⟩ := sqK I1 hq
  refine en1_call (beginsK (k := k) (us := ws.toArray)) p' fun h' he ho kp => wpAny_pyIter_enum he ?_
  have I2 : Inv X pins σ H1 { s1 with heap := h' } := I1.kept (t' := s1.toks) kp
  refine ⟨s1.heap.objs.size + 1, [s1.heap.objs.size + 1, s1.heap.objs.size], _, _, H1, rfl, I2, turnE k a (s1.heap.objs.size + 1) s1.heap.objs.size, ⟨⟨.none, he⟩, .new ho, Nat.succ_ne_self _⟩, fun b hb => ?_, q⟩
  have hle : s1.heap.objs.size ≤ b := by
    rcases List.mem_cons.mp hb with rfl | hb
    · exact Nat.le_add_right _ _
    · exact Nat.le_of_eq (List.mem_singleton.mp hb).symm
  exact I1.fpOk hle (I1.hok.fresh hle)
end MP

namespace MP
open PySem PySem.Spec PyProof.Rows L2

/-! ### zip of two, lists or tuples -/
def IzK (K : PySem.W.Frag) (k k2 : Kd) (a b : Addr) : It where
  go := fun i H => ∃ (xs ys : List V) (x y : V), SqK K H k a xs ∧ SqK K H k2 b ys ∧ xs[i]? = some x ∧ ys[i]? = some y
  yld := fun i H v H' => ∃ T x y, v = .ref T ∧ H T = none ∧ H' = upd H T (.tup [x, y]) ∧ (∀ xs, SqK K H k a xs → xs[i]? = some x) ∧ ∀ ys, SqK K H k2 b ys → ys[i]? = some y
  stop := fun i H => ∃ xs ys : List V, SqK K H k a xs ∧ SqK K H k2 b ys ∧ i = min xs.length ys.length
theorem turnZ {P : Program} {w : World} {K : PySem.W.Frag} {ts : List Expr} {m : Nat} {tpos : Pos} {k k2 : Kd} {a b z TI TO i1 i2 : Addr} (S : ZipSep2 z TI TO i1 i2 [i1, a] [i2, b]) :
    Turn P w K (.Tuple ts m tpos) (IzK K k k2 a b) [z, TI, TO, i1, i2] z (fun i h => IsZip h z TI TO .none ∧ IsTupOf2 h TI (.ref i1) (.ref i2) ∧ (∃ x y, IsTupOf2 h TO x y) ∧ ItK k h i1 a i ∧ ItK k2 h i2 b i) where
  mem := List.mem_cons_self
  obj := by
    rintro i h ⟨hz, hI, ⟨x, y, hO⟩, h1, h2⟩ c hc
    have hc : c = z ∨ c = TI ∨ c = TO ∨ c = i1 ∨ c = i2 := by simpa using hc
    rcases hc with rfl | rfl | rfl | rfl | rfl
    · exact ⟨_, hz, fun v q => nomatch q⟩
    · exact ⟨_, hI, fun v q => nomatch q⟩
    · exact ⟨_, hO, fun v q => nomatch q⟩
    · exact h1.obj
    · exact h2.obj
  keep := by
    rintro i h h' ⟨hz, hI, ⟨x, y, hO⟩, h1, h2⟩ kp
    exact ⟨kp z (by simp) _ hz, kp TI (by simp) _ hI, ⟨x, y, kp TO (by simp) _ hO⟩, h1.at' fun o q => kp i1 (by simp) o q, h2.at' fun o q => kp i2 (by simp) o q⟩
  item := by
    rintro X rfl rfl rfl hc i pins s σ H E I hf ⟨hz, hI, ⟨x0, y0, hO⟩, h1, h2⟩ ⟨xs, ys, x, y, qx, qy, hx, hy⟩
    obtain ⟨ws, rv, p, _⟩ := sqK I qx
    obtain ⟨ws2, rv2, p2, _⟩ := sqK I qy
    have hd : X.A.in1.handled = none := I.ok.hd hc
    have D1 := drawsK (P := X.prog) (w := X.w) (A := X.A.in1) (k := k) (us := ws.toArray) (it := i1) (a := a) hd (h1.ne p).symm
    have D2 := drawsK (P := X.prog) (w := X.w) (A := X.A.in1) (k := k2) (us := ws2.toArray) (it := i2) (a := b) hd (h2.ne p2).symm
    have b1 : i < ws.toArray.size := by
      rw [List.size_toArray, ← rv.length]
      exact (List.getElem?_eq_some_iff.mp hx).1
    have b2 : i < ws2.toArray.size := by
      rw [List.size_toArray, ← rv2.length]
      exact (List.getElem?_eq_some_iff.mp hy).1
    have zl : z < s.heap.objs.size := Heap.lt_size hz
    refine wpAny_pyNext_zipD2_item S D1 D2 hz hI hO ⟨h1, p⟩ ⟨h2, p2⟩ b1 b2 fun x1 x2 h' tk e1 e2 hz' hO' t1 t2 hT hsz kp => ?_
    refine ⟨_, rfl, wpAny_letOwnedTupleGo_zip (s := { s with heap := h', toks := tk }) hz' fun g hg sb => ?_⟩
    obtain ⟨u, hu, ru⟩ := rv.get hx
    obtain ⟨u2, hu2, ru2⟩ := rv2.get hy
    have e3 : x1 = u := Option.some.inj (e1.symm.trans (by simpa using hu))
    have e4 : x2 = u2 := Option.some.inj (e2.symm.trans (by simpa using hu2))
    subst e3 e4
    have hT2 : g.get? s.heap.objs.size = some { cls := .type "tuple", data := .seq #[x1, x2] } := (sb.2 _ (Nat.ne_of_gt zl)).trans hT
    have new : ObjOk X.prog X.w (upd H s.heap.objs.size (.tup [x, y])) g s.heap.objs.size (.tup [x, y]) :=
      ⟨by show 2 ≤ sizeLine; decide, [x1, x2], .cons ru (.cons ru2 .nil), _, hT2, rfl, _, rfl⟩
    have J : Inv X pins σ (upd H s.heap.objs.size (.tup [x, y])) { s with heap := g, toks := tk } :=
      I.turnedNew (ch := [z, TI, TO, i1, i2]) (fun c o hb q => (sb.2 c (by rintro rfl; simp at hb)).trans (kp c o (by rintro rfl; simp at hb) (by rintro rfl; simp at hb) (by rintro rfl; simp at hb) (by rintro rfl; simp at hb) q)) hf (Nat.le_refl _) new
    refine ⟨.ref s.heap.objs.size, _, J, rfl, ⟨_, x, y, rfl, I.hok.fresh (Nat.le_refl _), rfl, fun l hl => by rw [sqK_inj I hl qx]; exact hx, fun l hl => by rw [sqK_inj I hl qy]; exact hy⟩, ⟨hg, ?_, ⟨x1, x2, ?_⟩, ?_, ?_⟩, fun c hcm => ?_⟩
    · exact (sb.2 _ S.TIz).trans (kp _ _ S.TIz S.TITO S.TIi1 S.TIi2 hI)
    · exact (sb.2 _ S.TOz).trans hO'
    · exact t1.1.at' fun o q => (sb.2 _ S.zi1.symm).trans q
    · exact t2.1.at' fun o q => (sb.2 _ S.zi2.symm).trans q
    · have hlt : c < s.heap.objs.size := by
        have hcm : c = z ∨ c = TI ∨ c = TO ∨ c = i1 ∨ c = i2 := by simpa using hcm
        rcases hcm with rfl | rfl | rfl | rfl | rfl
        · exact zl
        · exact Heap.lt_size hI
        · exact Heap.lt_size hO
        · exact let ⟨_, e, _⟩ := h1.obj; Heap.lt_size e
        · exact let ⟨_, e, _⟩ := h2.obj; Heap.lt_size e
      rw [upd_ne (Nat.ne_of_lt hlt)]
      exact (hf c hcm).1
  done := by
    rintro X rfl rfl rfl hc i pins s σ H E I hf ⟨hz, hI, ⟨x0, y0, hO⟩, h1, h2⟩ ⟨xs, ys, qx, qy, hi⟩
    obtain ⟨ws, rv, p, _⟩ := sqK I qx
    obtain ⟨ws2, rv2, p2, _⟩ := sqK I qy
    have hd : X.A.in1.handled = none := I.ok.hd hc
    have D1 := drawsK (P := X.prog) (w := X.w) (A := X.A.in1) (k := k) (us := ws.toArray) (it := i1) (a := a) hd (h1.ne p).symm
    have D2 := drawsK (P := X.prog) (w := X.w) (A := X.A.in1) (k := k2) (us := ws2.toArray) (it := i2) (a := b) hd (h2.ne p2).symm
    have l1 := rv.length
    have l2 := rv2.length
    exact wpAny_pyNext_zipD2_end S D1 D2 hz hI hO ⟨h1, p⟩ ⟨h2, p2⟩ (by rw [List.size_toArray]; omega) (by rw [List.size_toArray]; omega) (by rw [List.size_toArray, List.size_toArray]; omega) fun h' tk kp => ⟨rfl, I.turnedL (t' := tk) (ch := [z, TI, TO, i1, i2]) (fun c o hb q =>
      kp c o (by rintro rfl; simp at hb) (by rintro rfl; simp at hb) (by rintro rfl; simp at hb) (by rintro rfl; simp at hb) q) hf⟩
  self := fun A i s Q E st q => wpAny_pyIter_zip st.1 q
def iZpK (K : PySem.W.Frag) (ta : TA) : TI := fun σ H R => ta σ H fun vs H1 => ∃ k k2 a b xs ys, vs = [.ref a, .ref b] ∧ SqK K H1 k a xs ∧ SqK K H1 k2 b ys ∧ R (IzK K k k2 a b) H1
theorem pi_zpK {X : Cx} {e e2 : Expr} {ta : TA} {p pos tpos : Pos} {ts : List Expr} {m : Nat} (hg : Gl X "zip") (hm : X.mg "zip" = none) (ha : PA X [e, e2] ta)
    (hs : starEach [e, e2] X.env = (false, eval e X.env) :: starEach [e2] X.env := by rfl) (hpl : (backTo pos (starEach [e2] X.env)).any (·.1) = false := by rfl) :
    PI X (.Tuple ts m tpos) (.Call (.Name "zip" p) [e, e2] [] pos) (iZpK X.K ta) := by
  refine ⟨fun pins s σ H R I h => Call_ (ld_blt I hg hm PyProof.Rows.boot_zip (PyProof.Rows.callWith_type1 (thn (ha.run pos pins s σ H _ I h) ?_) hs hpl))⟩
  rintro us s1 ⟨vs, H1, I1, r1, k, k2, a, b, xs, ys, rfl, qx, qy, q⟩
  obtain ⟨u1, u2, rfl, ra, rb⟩ : ∃ u1 u2, us = [u1, u2] ∧ RelV (.ref a) u1 ∧ RelV (.ref b) u2 := by
    cases r1 with
    | cons p q =>
      cases q with
      | cons p' q' =>
        cases q'
        exact ⟨_, _, rfl, p, p'⟩
  cases ra
  cases rb
  obtain ⟨ws, rv, p1, _⟩ := sqK I1 qx
  obtain ⟨ws2, rv2, p2, _⟩ := sqK I1 qy
  refine zip_begins2 (beginsK (k := k) (us := ws.toArray)) (beginsK (k := k2) (us := ws2.toArray)) p1 p2 fun h' hz hI hO g1 g2 hsz kp => wpAny_pyIter_zip hz ?_
  have I2 : Inv X pins σ H1 { s1 with heap := h' } := I1.kept (t' := s1.toks) kp
  have sep := zip_sep2 (N := s1.heap.objs.size) (fp1 := [a]) (fp2 := [b]) (fun c hc => by rw [List.mem_singleton.mp hc]; exact p1.lt) (fun c hc => by rw [List.mem_singleton.mp hc]; exact p2.lt)
  refine ⟨s1.heap.objs.size + 4, [s1.heap.objs.size + 4, s1.heap.objs.size + 2, s1.heap.objs.size + 3, s1.heap.objs.size, s1.heap.objs.size + 1], _, _, H1, rfl, I2, turnZ sep, ⟨hz, hI, ⟨_, _, hO⟩, .new g1, .new g2⟩, fun c hcm => ?_, q⟩
  have hle : s1.heap.objs.size ≤ c := by
    have hcm : c = s1.heap.objs.size + 4 ∨ c = s1.heap.objs.size + 2 ∨ c = s1.heap.objs.size + 3 ∨ c = s1.heap.objs.size ∨ c = s1.heap.objs.size + 1 := by simpa using hcm
    rcases hcm with e | e | e | e | e <;> rw [e] <;> first | exact Nat.le_add_right _ _ | exact Nat.le_refl _
  exact I1.fpOk hle (I1.hok.fresh hle)

/-! ### the items -/
inductive Itm where
  | v (x : U)
  | p (x y : U)
section
variable {X : Cx} {tg e e1 e2 e3 : Expr} {es : List Expr} {pos : Pos} {B : Bs} {w w' : Wd} {σ : L2.St} {H H' : Hp} {st : Stt} {a : Addr}
def RIt (B : Bs) (w : Wd) (H H' : Hp) : Itm → V → Prop
  | .v x, v => H' = H ∧ RU B w x v
  | .p x y, v => ∃ T vx vy, v = .ref T ∧ H T = none ∧ H' = upd H T (.tup [vx, vy]) ∧ RU B w x vx ∧ RU B w y vy
structure Wk (B : Bs) (w : Wd) (J : It) (its : List Itm) : Prop where
  go : ∀ (w' : Wd) (H : Hp) (i : Nat), Le w w' → (∀ a o, w'.F a = some o → H a = some o) → i < its.length → J.go i H
  stop : ∀ (w' : Wd) (H : Hp), Le w w' → (∀ a o, w'.F a = some o → H a = some o) → J.stop its.length H
  yld : ∀ (w' : Wd) (H : Hp) (i : Nat) (v : V) (H' : Hp), Le w w' → (∀ a o, w'.F a = some o → H a = some o) → i < its.length → J.yld i H v H' → ∃ it, its[i]? = some it ∧ RIt B w' H H' it v
theorem Sim.newNo (s : Sim B w σ H st) {p : Addr} (hp : H p = none) {o : HO} : Sim B w σ (upd H p o) st := by
  have ne : ∀ {b : Addr}, w.T b ≠ .no → b ≠ p := fun {b} h => by rintro rfl; exact h (s.h.free b hp)
  refine ⟨⟨fun b u e => ?_, s.h.lenM, s.h.cm, fun l b c e1 e2 => ?_, fun b e => ?_, fun b u e n => ?_, s.h.tb, s.h.t0, s.h.t0f, s.h.t0c⟩, s.r.mono (Le.rfl' w) fun b e => ⟨upd_ne (ne fun z => by rw [z] at e; exact e), rfl⟩⟩
  · rw [upd_ne (ne (by rw [e]; exact fun z => nomatch z))]
    exact s.h.fh b u e
  · obtain ⟨t, q⟩ := s.h.cells l b c e1 e2
    exact ⟨t, q.mono (Le.rfl' w) (upd_ne (ne (by rw [t]; exact fun z => nomatch z)))⟩
  · by_cases hb : b = p
    · subst hb
      exact s.h.free b hp
    · rw [upd_ne hb] at e
      exact s.h.free b e
  · have hb : b ≠ p := by
      rintro rfl
      have := s.h.fresh hp
      rw [show w.H0 b = some u from e] at this
      cases this
    rw [upd_ne hb]
    exact s.h.base b u e n
theorem RIt.sim (s : Sim B w σ H st) {it : Itm} {v : V} (r : RIt B w H H' it v) : Sim B w σ H' st := by
  cases it with
  | v x =>
    obtain ⟨rfl, _⟩ := r
    exact s
  | p x y =>
    obtain ⟨T, vx, vy, rfl, hT, rfl, _⟩ := r
    exact s.newNo hT
abbrev EvI := Stt → Option (List Itm × Stt)
def tI (B : Bs) (f : EvI) : TI := fun σ H R => ∃ w st its st', Sim B w σ H st ∧ f st = some (its, st') ∧ ∀ w' J H', Le w w' → Sim B w' σ H' st' → Wk B w' J its → R J H'
theorem piW {t t' : TI} (h : PI X tg e t) (k : ∀ σ H R, t' σ H R → t σ H R) : PI X tg e t' := ⟨fun pins s σ H R I q => h.run pins s σ H R I (k σ H R q)⟩

/-- the items of a value -/
def itsU : U → Option (List Itm)
  | .v (.list ds) => some (ds.map fun d => .v (.v d))
  | .v (.tuple ds) => some (ds.map fun d => .v (.v d))
  | .scr ns => some (ns.map fun n => .v (.v (.int n)))
  | _ => none
def vals (f : EvU) : EvI := fun st => (f st).bind fun p => (itsU p.1).map fun l => (l, p.2)
/-- a value that stays a list or a tuple, and what its places hold -/
def SeqU (B : Bs) (w : Wd) (k : Kd) (a : Addr) (ds : List PyData) : Prop := ∃ vs, (∀ w' H, Le w w' → (∀ a o, w'.F a = some o → H a = some o) → SqK B.K H k a vs) ∧ RpAll w.F ds vs
def dsU : U → Option (List PyData)
  | .v (.list ds) => some ds
  | .v (.tuple ds) => some ds
  | .scr ns => some (ns.map .int)
  | _ => none
theorem dsU_ok {x : U} {ds : List PyData} {v : V} (e : dsU x = some ds) (r : RU B w x v) : ∃ k a, v = .ref a ∧ SeqU B w k a ds := by
  unfold dsU at e
  split at e
  · cases e
    cases (show Rp w.F _ v from r) with
    | @lst a vs _ ex ra => exact ⟨.l, a, rfl, vs, fun w' H l h => SqL.of (h _ _ (l.sub _ _ ex)), ra⟩
  · cases e
    cases (show Rp w.F _ v from r) with
    | @tup a ob vs _ ex dx ra => exact ⟨.t, a, rfl, vs, fun w' H l h => .inl (.inr ⟨ob, h _ _ (l.sub _ _ ex)⟩), ra⟩
  · rename_i ns
    cases e
    obtain ⟨a, rfl, q⟩ := r
    exact ⟨.l, a, rfl, _, fun w' H l h => SqL.sub h (SqL.sub l.sub q), RpAll.ofInts ns⟩
  · cases e
theorem itsU_ds {x : U} {its : List Itm} (e : itsU x = some its) : ∃ ds, dsU x = some ds ∧ its = ds.map fun d => .v (.v d) := by
  unfold itsU at e
  split at e
  · cases e; exact ⟨_, rfl, rfl⟩
  · cases e; exact ⟨_, rfl, rfl⟩
  · cases e; exact ⟨_, rfl, by rw [List.map_map]; rfl⟩
  · cases e
theorem getAt {α β : Type} {f : α → β} {l : List α} {i : Nat} {x : α} (h : l[i]? = some x) : (l.map f)[i]? = some (f x) := by
  rw [List.getElem?_map, h]
  rfl
def ItOf (K : PySem.W.Frag) (k : Kd) (a : Addr) : It := match k with
  | .l => Itl K a
  | .t => Itt K a
theorem SeqU.wk {k : Kd} {ds : List PyData} (q : SeqU B w k a ds) : Wk B w (ItOf B.K k a) (ds.map fun d => .v (.v d)) := by
  obtain ⟨vs, h, r⟩ := q
  have hl : (ds.map fun d => Itm.v (.v d)).length = vs.length := by rw [List.length_map, r.length]
  have yl : ∀ {w' : Wd} {i : Nat} {v : V}, Le w w' → vs[i]? = some v → ∃ it, (ds.map fun d => Itm.v (.v d))[i]? = some it ∧ ∀ H, RIt B w' H H it v := fun {w' i v} l e => by
    obtain ⟨d, e1, e2⟩ := r.getV e
    exact ⟨_, getAt e1, fun H => ⟨rfl, e2.mono l.sub⟩⟩
  cases k with
  | l =>
    refine ⟨fun w' H i l hs hi => ⟨vs, vs[i]'(by omega), h w' H l hs, by simp⟩, fun w' H l hs => ⟨vs, h w' H l hs, by omega⟩, fun w' H i v H' l hs hi y => ?_⟩
    obtain ⟨rfl, y⟩ := y
    obtain ⟨it, e1, e2⟩ := yl l (y vs (h w' _ l hs))
    exact ⟨it, e1, e2 _⟩
  | t =>
    refine ⟨fun w' H i l hs hi => ⟨vs, vs[i]'(by omega), h w' H l hs, by simp⟩, fun w' H l hs => ⟨vs, h w' H l hs, by omega⟩, fun w' H i v H' l hs hi y => ?_⟩
    obtain ⟨rfl, y⟩ := y
    obtain ⟨it, e1, e2⟩ := yl l (y vs (h w' _ l hs))
    exact ⟨it, e1, e2 _⟩
def iSq (K : PySem.W.Frag) (t : TE) : TI := fun σ H R => t σ H fun x H1 => ∃ k a xs, x = .ref a ∧ SqK K H1 k a xs ∧ R (ItOf K k a) H1
theorem pi_sq {t : TE} (h : PE X e t) : PI X tg e (iSq X.K t) := by
  refine ⟨fun pins s σ H R I q => thn (h.run pins s σ H _ I q) ?_⟩
  rintro u s1 ⟨x, H1, I1, r1, k, a, xs, rfl, hq, q⟩
  cases r1
  obtain ⟨ws, rv, p, hz⟩ := sqK I1 hq
  cases k with
  | l => exact wpAny_pyIter_list (show s1.heap.IsList a ws.toArray from p) (pi_one (tk := s1.toks) I1 _ (turn_list a _) ⟨_, Heap.get?_push_size _ rfl, rfl, rfl⟩ q)
  | t => exact wpAny_pyIter_tuple (show s1.heap.IsTuple a ws.toArray from p) (pi_one (tk := s1.toks) I1 _ (turn_tuple a _) ⟨_, Heap.get?_push_size _ rfl, rfl, rfl⟩ q)
theorem i_vals {f : EvU} (h : PE X e (tU (bsX X) f)) : PI X tg e (tI (bsX X) (vals f)) := piW (pi_sq h) fun σ H R ⟨w, st, its, st', s, hf, q⟩ => by
  unfold vals at hf
  cases ea : f st with
  | none => rw [ea] at hf; cases hf
  | some p =>
    rw [ea, Option.bind_some] at hf
    cases eb : itsU p.1 with
    | none => rw [eb] at hf; cases hf
    | some l =>
      rw [eb] at hf
      cases hf
      obtain ⟨ds, e1, rfl⟩ := itsU_ds eb
      refine ⟨w, st, p.1, p.2, s, ea, fun w1 v H1 l1 s1 r1 => ?_⟩
      obtain ⟨k, a, rfl, sq⟩ := dsU_ok e1 r1
      obtain ⟨vs, h1, _⟩ := id sq
      exact ⟨k, a, vs, rfl, h1 w1 H1 (Le.rfl' w1) s1.h.sub, q w1 _ H1 l1 s1 sq.wk⟩
/-- enumerate(..), zip(.., ..), reversed(..) of such values -/
def enI : Nat → List PyData → List Itm
  | _, [] => []
  | n, d :: ds => .p (.v (.int (n : Nat))) (.v d) :: enI (n + 1) ds
theorem enI_len : ∀ (ds : List PyData) (n : Nat), (enI n ds).length = ds.length
  | [], _ => rfl
  | d :: ds, n => by simp [enI, enI_len ds]
theorem enI_get : ∀ (ds : List PyData) (n i : Nat) (d : PyData), ds[i]? = some d → (enI n ds)[i]? = some (.p (.v (.int ((n + i : Nat) : Int))) (.v d))
  | [], _, _, _, h => by simp at h
  | d :: ds, n, 0, _, h => by
    cases h
    rfl
  | d :: ds, n, i + 1, _, h => by
    have := enI_get ds (n + 1) i _ (by simpa using h)
    simp only [enI, List.getElem?_cons_succ]
    rw [this, show n + 1 + i = n + (i + 1) by omega]
def enum (f : EvU) : EvI := fun st => (f st).bind fun p => (dsU p.1).map fun ds => (enI 0 ds, p.2)
theorem i_enum {f : EvU} {p tpos : Pos} {ts : List Expr} {m : Nat} (hg : Gl X "enumerate") (hm : X.mg "enumerate" = none) (h : PE X e (tU (bsX X) f)) (hs : starEach [e] X.env = (false, eval e X.env) :: starEach [] X.env := by rfl) :
    PI X (.Tuple ts m tpos) (.Call (.Name "enumerate" p) [e] [] pos) (tI (bsX X) (enum f)) :=
  piW (pi_enK hg hm (a_cons h a_nil hs) (by rw [hs]; rfl)) fun σ H R ⟨w, st, its, st', s, hf, q⟩ => by
    unfold enum at hf
    cases ea : f st with
    | none => rw [ea] at hf; cases hf
    | some p =>
      rw [ea, Option.bind_some] at hf
      cases eb : dsU p.1 with
      | none => rw [eb] at hf; cases hf
      | some ds =>
        rw [eb] at hf
        cases hf
        refine ⟨w, st, [p.1], p.2, s, by simp [aCons, aNil, ea], fun w1 vs H1 l1 s1 r1 => ?_⟩
        cases r1 with
        | cons r rr =>
          cases rr
          obtain ⟨k, a, rfl, us, h1, ra⟩ := dsU_ok eb r
          refine ⟨k, a, us, rfl, h1 w1 H1 (Le.rfl' w1) s1.h.sub, q w1 _ H1 l1 s1 ⟨fun w' H i l hs hi => ?_, fun w' H l hs => ?_, fun w' H i v H' l hs hi y => ?_⟩⟩
          · rw [enI_len, ra.length] at hi
            exact ⟨us, us[i], h1 w' H l hs, by simp⟩
          · exact ⟨us, h1 w' H l hs, by rw [enI_len, ra.length]⟩
          · obtain ⟨T, x, rfl, hT, rfl, y⟩ := y
            obtain ⟨d, e1, e2⟩ := ra.getV (y us (h1 w' H l hs))
            refine ⟨_, enI_get ds 0 i d e1, T, .int (i : Nat), x, rfl, hT, rfl, ?_, e2.mono l.sub⟩
            rw [Nat.zero_add]
            exact .int _
def zpI : List PyData → List PyData → List Itm
  | x :: xs, y :: ys => .p (.v x) (.v y) :: zpI xs ys
  | _, _ => []
theorem zpI_len : ∀ (xs ys : List PyData), (zpI xs ys).length = min xs.length ys.length
  | [], _ => by simp [zpI]
  | _ :: _, [] => by simp [zpI]
  | x :: xs, y :: ys => by simp [zpI, zpI_len xs ys]
theorem zpI_get : ∀ (xs ys : List PyData) (i : Nat) (x y : PyData), xs[i]? = some x → ys[i]? = some y → (zpI xs ys)[i]? = some (.p (.v x) (.v y))
  | [], _, _, _, _, h, _ => by simp at h
  | _ :: _, [], _, _, _, _, h => by simp at h
  | x :: xs, y :: ys, 0, _, _, h1, h2 => by simp at h1 h2; subst h1 h2; rfl
  | x :: xs, y :: ys, i + 1, _, _, h1, h2 => by
    have := zpI_get xs ys i _ _ (by simpa using h1) (by simpa using h2)
    simpa [zpI] using this
def zipI (f g : EvU) : EvI := fun st => (f st).bind fun p => (g p.2).bind fun q => (dsU p.1).bind fun xs => (dsU q.1).map fun ys => (zpI xs ys, q.2)
theorem i_zip {f g : EvU} {p tpos : Pos} {ts : List Expr} {m : Nat} (hg : Gl X "zip") (hm : X.mg "zip" = none) (h1 : PE X e1 (tU (bsX X) f)) (h2 : PE X e2 (tU (bsX X) g))
    (hs : starEach [e1, e2] X.env = (false, eval e1 X.env) :: starEach [e2] X.env := by rfl) (hs2 : starEach [e2] X.env = (false, eval e2 X.env) :: starEach [] X.env := by rfl) (hpl : (backTo pos (starEach [e2] X.env)).any (·.1) = false := by rfl) :
    PI X (.Tuple ts m tpos) (.Call (.Name "zip" p) [e1, e2] [] pos) (tI (bsX X) (zipI f g)) :=
  piW (pi_zpK hg hm (a_cons h1 (a_cons h2 a_nil hs2) hs) hs hpl) fun σ H R ⟨w, st, its, st', s, hf, q⟩ => by
    unfold zipI at hf
    cases ea : f st with
    | none => rw [ea] at hf; cases hf
    | some p =>
      rw [ea, Option.bind_some] at hf
      cases eb : g p.2 with
      | none => rw [eb] at hf; cases hf
      | some p2 =>
        rw [eb, Option.bind_some] at hf
        cases ec : dsU p.1 with
        | none => rw [ec] at hf; cases hf
        | some xs =>
          rw [ec, Option.bind_some] at hf
          cases ed : dsU p2.1 with
          | none => rw [ed] at hf; cases hf
          | some ys =>
            rw [ed] at hf
            cases hf
            refine ⟨w, st, [p.1, p2.1], p2.2, s, by simp [aCons, aNil, ea, eb], fun w1 vs H1 l1 s1 r1 => ?_⟩
            cases r1 with
            | cons r rr =>
              cases rr with
              | cons r' rr =>
                cases rr
                obtain ⟨k, a, rfl, us, h1, ra⟩ := dsU_ok ec r
                obtain ⟨k2, b, rfl, us2, h2, rb⟩ := dsU_ok ed r'
                refine ⟨k, k2, a, b, us, us2, rfl, h1 w1 H1 (Le.rfl' w1) s1.h.sub, h2 w1 H1 (Le.rfl' w1) s1.h.sub, q w1 _ H1 l1 s1 ⟨fun w' H i l hs hi => ?_, fun w' H l hs => ?_, fun w' H i v H' l hs hi y => ?_⟩⟩
                · rw [zpI_len, ra.length, rb.length] at hi
                  exact ⟨us, us2, us[i]'(by omega), us2[i]'(by omega), h1 w' H l hs, h2 w' H l hs, by simp, by simp⟩
                · exact ⟨us, us2, h1 w' H l hs, h2 w' H l hs, by rw [zpI_len, ra.length, rb.length]⟩
                · obtain ⟨T, x, y', rfl, hT, rfl, y1, y2⟩ := y
                  obtain ⟨d, e1, e2⟩ := ra.getV (y1 us (h1 w' H l hs))
                  obtain ⟨d2, e3, e4⟩ := rb.getV (y2 us2 (h2 w' H l hs))
                  exact ⟨_, zpI_get xs ys i d d2 e1 e3, T, x, y', rfl, hT, rfl, e2.mono l.sub, e4.mono l.sub⟩
def rvI (f : EvU) : EvI := fun st => (f st).bind fun p => (dsU p.1).map fun ds => (ds.reverse.map fun d => .v (.v d), p.2)
theorem i_rev {f : EvU} {p : Pos} (hg : Gl X "reversed") (hm : X.mg "reversed" = none) (h : PE X e (tU (bsX X) f)) (hs : starEach [e] X.env = (false, eval e X.env) :: starEach [] X.env := by rfl) :
    PI X tg (.Call (.Name "reversed" p) [e] [] pos) (tI (bsX X) (rvI f)) :=
  piW (RT.pi_revA hg hm h hs) fun σ H R ⟨w, st, its, st', s, hf, q⟩ => by
    unfold rvI at hf
    cases ea : f st with
    | none => rw [ea] at hf; cases hf
    | some p =>
      rw [ea, Option.bind_some] at hf
      cases eb : dsU p.1 with
      | none => rw [eb] at hf; cases hf
      | some ds =>
        rw [eb] at hf
        cases hf
        refine ⟨w, st, p.1, p.2, s, ea, fun w1 v H1 l1 s1 r1 => ?_⟩
        obtain ⟨k, a, rfl, us, h1, ra⟩ := dsU_ok eb r1
        have hl : (ds.reverse.map fun d => Itm.v (.v d)).length = us.length := by rw [List.length_map, List.length_reverse, ra.length]
        have yl : ∀ {w' : Wd} {i : Nat} {v : V}, Le w1 w' → i < us.length → us[us.length - 1 - i]? = some v → ∃ it, (ds.reverse.map fun d => Itm.v (.v d))[i]? = some it ∧ ∀ H, RIt (bsX X) w' H H it v := fun {w' i v} l hi e => by
          obtain ⟨d, e1, e2⟩ := ra.getV e
          refine ⟨_, getAt ?_, fun H => ⟨rfl, e2.mono l.sub⟩⟩
          rw [List.getElem?_reverse (by rw [ra.length]; exact hi), ra.length]
          exact e1
        refine ⟨a, us, rfl, ?_⟩
        cases k with
        | l =>
          refine .inl ⟨h1 w1 H1 (Le.rfl' w1) s1.h.sub, q w1 _ H1 l1 s1 ⟨fun w' H i l hs hi => ⟨by omega, us, us[us.length - 1 - i]'(by omega), h1 w' H l hs, by simp⟩, fun w' H l hs => Nat.le_of_eq hl.symm, fun w' H i v H' l hs hi y => ?_⟩⟩
          obtain ⟨rfl, y⟩ := y
          obtain ⟨it, e1, e2⟩ := yl l (by omega) (y us (h1 w' _ l hs))
          exact ⟨it, e1, e2 _⟩
        | t =>
          refine .inr ⟨h1 w1 H1 (Le.rfl' w1) s1.h.sub, q w1 _ H1 l1 s1 ⟨fun w' H i l hs hi => ⟨by omega, us, us[us.length - 1 - i]'(by omega), h1 w' H l hs, by simp⟩, fun w' H l hs => Nat.le_of_eq hl.symm, fun w' H i v H' l hs hi y => ?_⟩⟩
          obtain ⟨rfl, y⟩ := y
          obtain ⟨it, e1, e2⟩ := yl l (by omega) (y us (h1 w' _ l hs))
          exact ⟨it, e1, e2 _⟩
/-- range(..) -/
def rgI (lo hi : Int) : List Itm := (List.range (hi - lo).toNat).map fun (i : Nat) => .v (.v (.int (lo + i)))
def rgSm (i : Int) : Bool := decide (i.natAbs < 4611686018427387904)
theorem rgSm_ok {i : Int} (h : rgSm i = true) : -(2 ^ 62) ≤ i ∧ i < 2 ^ 62 := by
  simp only [rgSm, decide_eq_true_eq] at h
  omega
theorem rg_wk {lo hi : Int} {n : Nat} (hn : n = (hi - lo).toNat) : Wk B w (Itr lo n) (rgI lo hi) := by
  subst hn
  have hl : (rgI lo hi).length = (hi - lo).toNat := by simp [rgI]
  refine ⟨fun w' H i l hs hi => by rw [hl] at hi; exact hi, fun w' H l hs => Nat.le_of_eq hl.symm, fun w' H i v H' l hs hi y => ?_⟩
  obtain ⟨rfl, rfl⟩ := y
  rw [hl] at hi
  exact ⟨_, getAt (List.getElem?_range hi), rfl, .int _⟩
def rg1 (f : EvU) : EvI := fun st => (f st).bind fun p => match p.1 with
  | .v (.int j) => if rgSm j then some (rgI 0 j, p.2) else none
  | _ => none
theorem i_rg1 {f : EvU} {p : Pos} (hg : Gl X "range") (hm : X.mg "range" = none) (h : PE X e (tU (bsX X) f)) (hs : starEach [e] X.env = (false, eval e X.env) :: starEach [] X.env := by rfl) :
    PI X tg (.Call (.Name "range" p) [e] [] pos) (tI (bsX X) (rg1 f)) :=
  piW (pi_range1 hg hm (a_cons h a_nil hs) (by rw [hs]; rfl)) fun σ H R ⟨w, st, its, st', s, hf, q⟩ => by
    unfold rg1 at hf
    cases ea : f st with
    | none => rw [ea] at hf; cases hf
    | some p =>
      obtain ⟨x, st2⟩ := p
      rw [ea, Option.bind_some] at hf
      split at hf
      · rename_i j ej
        have ej : x = .v (.int j) := ej
        subst ej
        split at hf
        · rename_i hc
          cases hf
          refine ⟨w, st, [.v (.int j)], st2, s, by simp [aCons, aNil, ea], fun w1 vs H1 l1 s1 r1 => ?_⟩
          cases r1 with
          | cons r rr =>
            cases rr
            cases (show Rp w1.F _ _ from r)
            exact ⟨j, rfl, (rgSm_ok hc).1, (rgSm_ok hc).2, q w1 _ H1 l1 s1 (rg_wk (by simp))⟩
        · cases hf
      · cases hf
def rg2 (f g : EvU) : EvI := fun st => (f st).bind fun p => (g p.2).bind fun p2 => match p.1, p2.1 with
  | .v (.int i), .v (.int j) => if rgSm i && rgSm j then some (rgI i j, p2.2) else none
  | _, _ => none
theorem i_rg2 {f g : EvU} {p : Pos} (hg : Gl X "range") (hm : X.mg "range" = none) (h : PE X e1 (tU (bsX X) f)) (h2 : PE X e2 (tU (bsX X) g)) (hs : starEach [e1, e2] X.env = (false, eval e1 X.env) :: starEach [e2] X.env := by rfl) (hs2 : starEach [e2] X.env = (false, eval e2 X.env) :: starEach [] X.env := by rfl) :
    PI X tg (.Call (.Name "range" p) [e1, e2] [] pos) (tI (bsX X) (rg2 f g)) :=
  piW (pi_range2 hg hm (a_cons h (a_cons h2 a_nil hs2) hs) (by rw [hs, hs2]; rfl) (by rw [hs2]; rfl)) fun σ H R ⟨w, st, its, st', s, hf, q⟩ => by
    unfold rg2 at hf
    cases ea : f st with
    | none => rw [ea] at hf; cases hf
    | some p =>
      obtain ⟨x, st2⟩ := p
      rw [ea, Option.bind_some] at hf
      cases eb : g st2 with
      | none => rw [eb] at hf; cases hf
      | some p2 =>
        obtain ⟨y, st3⟩ := p2
        rw [eb, Option.bind_some] at hf
        split at hf
        · rename_i i j ei ej
          have ei : x = .v (.int i) := ei
          have ej : y = .v (.int j) := ej
          subst ei ej
          split at hf
          · rename_i hc
            cases hf
            have hc := Bool.and_eq_true_iff.mp hc
            refine ⟨w, st, [.v (.int i), .v (.int j)], st3, s, by simp [aCons, aNil, ea, eb], fun w1 vs H1 l1 s1 r1 => ?_⟩
            cases r1 with
            | cons r rr =>
              cases rr with
              | cons r' rr =>
                cases rr
                cases (show Rp w1.F _ _ from r)
                cases (show Rp w1.F _ _ from r')
                exact ⟨i, j, rfl, ⟨(rgSm_ok hc.1).1, (rgSm_ok hc.1).2, (rgSm_ok hc.2).1, (rgSm_ok hc.2).2⟩, q w1 _ H1 l1 s1 (rg_wk rfl)⟩
          · cases hf
        · cases hf
end
end MP

namespace MP
open PySem PySem.Spec PyProof.Rows L2

section
variable {X : Cx} {tg e e1 e2 e3 elt iter : Expr} {es ifs : List Expr} {body : List Stmt} {pos : Pos} {B : Bs} {w w' : Wd} {σ : L2.St} {H H' : Hp} {st : Stt} {a : Addr}

/-! ### targets of walks: the slots vs alone are stored -/
def tW (B : Bs) (vs : List Nat) (g : EvG) : TG := fun v σ H Q => ∃ w st x st', Sim B w σ H st ∧ RU B w x v ∧ g x st = some st' ∧ ∀ w' σ' H', wipe σ' vs = wipe σ vs → Le w w' → Sim B w' σ' H' st' → Q σ' H'
def tWs (B : Bs) (vs : List Nat) (g : EvGs) : TGs := fun us σ H Q => ∃ w st xs st', Sim B w σ H st ∧ RUs B w xs us ∧ g xs st = some st' ∧ ∀ w' σ' H', wipe σ' vs = wipe σ vs → Le w w' → Sim B w' σ' H' st' → Q σ' H'
def tWI (B : Bs) (vs : List Nat) (g : Itm → Stt → Option Stt) : TG := fun v σ H' Q => ∃ w st H it st', Sim B w σ H st ∧ RIt B w H H' it v ∧ g it st = some st' ∧ ∀ w' σ' H2, wipe σ' vs = wipe σ vs → Le w w' → Sim B w' σ' H2 st' → Q σ' H2
theorem wipe_set {σ : L2.St} {i : Nat} {v : Option V} : ∀ {vs : List Nat}, i ∈ vs → wipe (σ.set i v) vs = wipe σ vs
  | j :: vs, h => by
    unfold wipe
    by_cases hi : i ∈ vs
    · rw [wipe_set hi]
    · have e : i = j := by
        rcases List.mem_cons.mp h with e | e
        · exact e
        · exact absurd e hi
      subst e
      clear h
      have : wipe (σ.set i v) vs = (wipe σ vs).set i v := by
        induction vs with
        | nil => rfl
        | cons j vs ih =>
          have h1 : i ≠ j := fun e => hi (by rw [e]; exact List.mem_cons_self)
          have h2 : i ∉ vs := fun m => hi (List.mem_cons_of_mem _ m)
          unfold wipe
          rw [ih h2, List.set_comm _ _ h1]
      rw [this, List.set_set]
theorem w_nm {i : Nat} {x : Str} {vs : List Nat} (hN : X.N.Nodup) (hi : X.N[i]? = some x) (hx : Loc X.env.scope x) (hv : i ∈ vs) (hf : X.fn x = true ∨ X.env.scope.names.lookup x = some .local := by first | exact .inl rfl | exact .inr rfl | assumption) : PG X (.Name x pos) (tW B vs (gN i)) :=
  pgW (pg_name hN hi hx hf) fun v σ H Q ⟨w, st, x, st', s, r, hg, q⟩ => by
    unfold gN at hg
    split at hg
    · rename_i hlt
      cases hg
      exact q w _ H (wipe_set hv) (Le.rfl' w) (s.setU (by rw [← s.r.len]; exact hlt) r)
    · cases hg
theorem ws_nil {vs : List Nat} : PGs X [] (tWs B vs gNo) := pgsW pgs_nil fun us σ H Q ⟨w, st, xs, st', s, r, hg, q⟩ => by
  cases r with
  | nil =>
    cases hg
    exact ⟨rfl, q w σ H rfl (Le.rfl' w) s⟩
  | cons _ _ => cases hg
theorem ws_cons {vs : List Nat} {g : EvG} {gs : EvGs} (h1 : PG X e (tW B vs g)) (h2 : PGs X es (tWs B vs gs)) (hs : (assignEach (e :: es) X.env).map (·.2) = assign e X.env :: (assignEach es X.env).map (·.2) := by rfl) : PGs X (e :: es) (tWs B vs (gCo g gs)) :=
  pgsW (pgs_cons h1 h2 hs) fun us σ H Q ⟨w, st, xs, st', s, r, hg, q⟩ => by
    cases r with
    | nil => cases hg
    | @cons x v xs us r rr =>
      have hg : (g x st).bind (gs xs) = some st' := hg
      cases ea : g x st with
      | none => rw [ea] at hg; cases hg
      | some st2 =>
        rw [ea, Option.bind_some] at hg
        exact ⟨v, us, rfl, w, st, x, st2, s, r, ea, fun w' σ' H' e l s' => ⟨w', st2, xs, st', s', RUs.mono l rr, hg, fun w2 σ2 H2 e2 l2 s2 => q w2 σ2 H2 (e2.trans e) (l.trans l2) s2⟩⟩
theorem w_tup {vs : List Nat} {k n : Nat} {gs : EvGs} (hc : X.calm = true) (h : PGs X es (tWs B vs gs)) (hn : (assignEach es X.env).length = n := by rfl) (hst : (assignEach es X.env).findIdx? (·.1) = none := by rfl) : PG X (.Tuple es k pos) (tW B vs (gT n gs)) :=
  pgW (pg_tup hc h hn hst) fun v σ H Q ⟨w, st, x, st', s, r, hg, q⟩ => by
    unfold gT at hg
    split at hg
    · rename_i ds
      split at hg
      · rename_i hl
        cases (show Rp w.F (.tuple ds) v from r) with
        | @tup a ob vs ds ex dx ra => exact ⟨a, vs, rfl, .inl (.inr ⟨ob, s.h.sub _ _ ex⟩), by rw [← ra.length]; exact hl, w, st, _, st', s, ra.us, hg, q⟩
      · cases hg
    · cases hg
def onV (g : EvG) : Itm → Stt → Option Stt := fun it st => match it with
  | .v x => g x st
  | _ => none
def onT (n : Nat) (gs : EvGs) : Itm → Stt → Option Stt := fun it st => match it with
  | .v x => gT n gs x st
  | .p x y => if n = 2 then gs [x, y] st else none
theorem i_on {vs : List Nat} {g : EvG} (h : PG X e (tW B vs g)) : PG X e (tWI B vs (onV g)) := pgW h fun v σ H' Q ⟨w, st, H, it, st', s, r, hg, q⟩ => by
  cases it with
  | v x =>
    obtain ⟨rfl, rx⟩ := r
    exact ⟨w, st, x, st', s, rx, hg, q⟩
  | p x y => cases hg
theorem i_tup {vs : List Nat} {k n : Nat} {gs : EvGs} (hc : X.calm = true) (h : PGs X es (tWs B vs gs)) (hn : (assignEach es X.env).length = n := by rfl) (hst : (assignEach es X.env).findIdx? (·.1) = none := by rfl) : PG X (.Tuple es k pos) (tWI B vs (onT n gs)) :=
  pgW (pg_tup hc h hn hst) fun v σ H' Q ⟨w, st, H, it, st', s, r, hg, q⟩ => by
    cases it with
    | v x =>
      obtain ⟨rfl, rx⟩ := r
      have hg : gT n gs x st = some st' := hg
      unfold gT at hg
      split at hg
      · rename_i ds _
        split at hg
        · rename_i hl
          cases (show Rp w.F (.tuple ds) v from rx) with
          | @tup a ob vs ds ex dx ra => exact ⟨a, vs, rfl, .inl (.inr ⟨ob, s.h.sub _ _ ex⟩), by rw [← ra.length]; exact hl, w, st, _, st', s, ra.us, hg, q⟩
        · cases hg
      · cases hg
    | p x y =>
      have s' := r.sim s
      obtain ⟨T, vx, vy, rfl, hT, rfl, rx, ry⟩ := r
      have hg : (if n = 2 then gs [x, y] st else none) = some st' := hg
      split at hg
      · rename_i hn
        exact ⟨T, [vx, vy], rfl, .inl (.inl upd_same), hn.symm, w, st, [x, y], st', s', .cons rx (.cons ry .nil), hg, q⟩
      · cases hg

/-! ### for -/
def fLoop (g : Itm → Stt → Option Stt) (b : EvS) : List Itm → EvS
  | [], st => some (.nx, st)
  | it :: its, st => (g it st).bind fun st1 => (b st1).bind fun q => match q.1 with
    | .nx => fLoop g b its q.2
    | .ct => fLoop g b its q.2
    | .bk => some (.nx, q.2)
    | .rt o => some (.rt o, q.2)
def sFor (f : EvI) (g : Itm → Stt → Option Stt) (b : EvS) : EvS := fun st => (f st).bind fun p => fLoop g b p.1 p.2
theorem s_for {f : EvI} {g : Itm → Stt → Option Stt} {b : EvS} {vs : List Nat} (hp : PassesOwn (model X.prog X.w) X.A X.env X.xe) (hc : X.calm = true) (hi : PI X tg iter (tI B f)) (hg : PG X tg (tWI B vs g)) (hb : PSs X body (tS B b))
    (hs : ∀ x, foldedSetIterable iter X.env x = pure x := by intro _; rfl) : PS X (.For tg iter body [] pos) (tS B (sFor f g b)) :=
  psW (ps_for hp hc hi hg hb hs) fun D σ H ⟨w, st, fl, st', s, hf, q⟩ => by
    unfold sFor at hf
    cases ea : f st with
    | none => rw [ea] at hf; cases hf
    | some p =>
      obtain ⟨its, st0⟩ := p
      rw [ea, Option.bind_some] at hf
      refine ⟨w, st, its, st0, s, ea, fun w0 J H0 l0 s0 wk => ⟨fun i m σ H => ∃ w1 st1, Le w0 w1 ∧ Sim B w1 σ H st1 ∧ m = its.length - i ∧ i ≤ its.length ∧ fLoop g b (its.drop i) st1 = some (fl, st'), ⟨its.length, w0, st0, Le.rfl' w0, s0, by simp, Nat.zero_le _, hf⟩, ?_⟩⟩
      rintro i m σ1 H1 ⟨w1, st1, l1, s1, rfl, hle, hm⟩
      by_cases hlt : i < its.length
      · refine .inr ⟨wk.go w1 H1 i l1 s1.h.sub hlt, fun σ' H' => ∃ m', m' < its.length - i ∧ ∃ w1 st1, Le w0 w1 ∧ Sim B w1 σ' H' st1 ∧ m' = its.length - (i + 1) ∧ i + 1 ≤ its.length ∧ fLoop g b (its.drop (i + 1)) st1 = some (fl, st'), fun _ _ h => h, fun x H' y => ?_⟩
        obtain ⟨it, e1, r1⟩ := wk.yld w1 H1 i x H' l1 s1.h.sub hlt y
        have ed : its.drop i = it :: its.drop (i + 1) := by
          rw [List.drop_eq_getElem_cons hlt]
          have : its[i] = it := by rw [List.getElem?_eq_getElem hlt] at e1; exact Option.some.inj e1
          rw [this]
        rw [ed] at hm
        have hm : ((g it st1).bind fun st1 => (b st1).bind fun q => match q.1 with
          | .nx => fLoop g b (its.drop (i + 1)) q.2
          | .ct => fLoop g b (its.drop (i + 1)) q.2
          | .bk => some (.nx, q.2)
          | .rt o => some (.rt o, q.2)) = some (fl, st') := hm
        cases eg : g it st1 with
        | none => rw [eg] at hm; cases hm
        | some st2 =>
          rw [eg, Option.bind_some] at hm
          cases eb : b st2 with
          | none => rw [eb] at hm; cases hm
          | some z =>
            obtain ⟨fl2, st3⟩ := z
            rw [eb, Option.bind_some] at hm
            refine ⟨w1, st1, H1, it, st2, s1, r1, eg, fun w2 σ2 H2 _ l2 s2 => ⟨w2, st2, fl2, st3, s2, eb, ?_⟩⟩
            cases fl2 with
            | nx => exact fun w3 σ3 H3 l3 s3 => ⟨_, by omega, w3, st3, l1.trans (l2.trans l3), s3, rfl, hlt, hm⟩
            | ct => exact fun w3 σ3 H3 l3 s3 => ⟨_, by omega, w3, st3, l1.trans (l2.trans l3), s3, rfl, hlt, hm⟩
            | bk =>
              cases hm
              exact fun w3 σ3 H3 l3 s3 => q w3 σ3 H3 (l0.trans (l1.trans (l2.trans l3))) s3
            | rt o =>
              cases hm
              exact fun w3 v σ3 H3 l3 s3 r3 => q w3 v σ3 H3 (l0.trans (l1.trans (l2.trans l3))) s3 r3
      · have e : i = its.length := by omega
        subst e
        rw [List.drop_length] at hm
        cases hm
        exact .inl ⟨wk.stop w1 H1 l1 s1.h.sub, q w1 σ1 H1 (l0.trans l1) s1⟩

/-! ### comprehensions -/
def wipeR (r : List (Option O)) : List Nat → List (Option O)
  | [] => r
  | v :: vs => (wipeR r vs).set v none
theorem wipeR_len (r : List (Option O)) : ∀ vs, (wipeR r vs).length = r.length
  | [] => rfl
  | v :: vs => by simp [wipeR, wipeR_len r vs]
theorem wipeR_get {r : List (Option O)} {j : Nat} {o : O} : ∀ {vs : List Nat}, (wipeR r vs)[j]? = some (some o) → j ∉ vs ∧ r[j]? = some (some o)
  | [], h => ⟨by simp, h⟩
  | v :: vs, h => by
    obtain ⟨h1, h2⟩ := List.set_none_get h
    obtain ⟨h3, h4⟩ := wipeR_get h2
    exact ⟨by simp [h1, h3], h4⟩
def keepU : Option (Option O) → Option O
  | some (some (.u x)) => some (.u x)
  | _ => none
def backR (r0 r : List (Option O)) : List Nat → List (Option O)
  | [] => r
  | v :: vs => (backR r0 r vs).set v (keepU r0[v]?)
theorem backR_len (r0 r : List (Option O)) : ∀ vs, (backR r0 r vs).length = r.length
  | [] => rfl
  | v :: vs => by simp [backR, backR_len r0 r vs]
theorem keepU_some {x : Option (Option O)} {o : O} (h : keepU x = some o) : x = some (some o) ∧ ∃ y, o = .u y := by
  unfold keepU at h
  split at h
  · cases h
    exact ⟨rfl, _, rfl⟩
  · cases h
theorem backR_get {r0 r : List (Option O)} {j : Nat} {o : O} : ∀ {vs : List Nat}, (backR r0 r vs)[j]? = some (some o) → (r0[j]? = some (some o) ∧ ∃ y, o = .u y) ∨ (j ∉ vs ∧ r[j]? = some (some o))
  | [], h => .inr ⟨by simp, h⟩
  | v :: vs, h => by
    unfold backR at h
    by_cases hj : j = v
    · subst hj
      have : j < (backR r0 r vs).length := by
        have := (List.getElem?_eq_some_iff.mp h).1
        simpa using this
      rw [List.getElem?_set_self this] at h
      exact .inl (keepU_some (Option.some.inj h))
    · rw [List.getElem?_set_ne (Ne.symm hj)] at h
      rcases backR_get h with q | ⟨h1, h2⟩
      · exact .inl q
      · exact .inr ⟨by simp [hj, h1], h2⟩
theorem wipe_wipe {σ : L2.St} : ∀ {vs : List Nat}, L2.wipe (L2.wipe σ vs) vs = L2.wipe σ vs := by
  intro vs
  apply List.ext_getElem?
  intro j
  by_cases hj : j ∈ vs
  · have : ∀ {τ : L2.St} {us : List Nat}, τ.length = σ.length → j ∈ us → (L2.wipe τ us)[j]? = if j < σ.length then some none else none := by
      intro τ us hl hu
      by_cases hs : j < σ.length
      · rw [if_pos hs, List.getElem?_eq_getElem (by rw [wipe_length, hl]; exact hs)]
        congr 1
        cases e : (L2.wipe τ us)[j]'(by rw [wipe_length, hl]; exact hs) with
        | none => rfl
        | some v =>
          have := wipe_some (σ := τ) (i := j) (x := v) (vs := us) (by rw [List.getElem?_eq_getElem (by rw [wipe_length, hl]; exact hs), e])
          exact absurd hu this.2
      · rw [if_neg hs, List.getElem?_eq_none (by rw [wipe_length, hl]; omega)]
    rw [this (wipe_length σ vs) hj, this rfl hj]
  · rw [wipe_out hj]
def wipeS (vs : List Nat) (st : Stt) : Stt := { st with r := wipeR st.r vs }
theorem Sim.wipeTo {σ2 : L2.St} {vs : List Nat} (s : Sim B w σ2 H st) (hl : σ.length = σ2.length) (he : ∀ j, j ∉ vs → σ2[j]? = σ[j]?) : Sim B w σ H (wipeS vs st) :=
  ⟨s.h, ⟨by rw [show (wipeS vs st).r = wipeR st.r vs from rfl, wipeR_len, s.r.len, hl], s.r.lenH, fun j o q => by
    obtain ⟨h1, h2⟩ := wipeR_get q
    obtain ⟨v, q1, q2⟩ := s.r.slot j o h2
    exact ⟨v, by rw [← he j h1]; exact q1, q2⟩, s.r.held⟩⟩
theorem Sim.wipe (s : Sim B w σ H st) (vs : List Nat) : Sim B w (L2.wipe σ vs) H (wipeS vs st) := s.wipeTo (wipe_length σ vs) fun j hj => (wipe_out hj).symm
/-- behind a turn -/
theorem Sim.turned {σ2 : L2.St} {vs : List Nat} (s : Sim B w σ2 H st) (h : L2.wipe σ2 vs = L2.wipe σ vs) : Sim B w (L2.wipe σ vs) H (wipeS vs st) := by
  rw [← h]
  exact s.wipe vs
/-- the last held list is added to -/
def pushH (x : U) (st : Stt) : Option Stt := match x, st.h.getLast? with
  | .v d, some (.ol acc) => if lineOk (acc.length + 1) then some { st with h := st.h.dropLast ++ [.ol (acc ++ [d])] } else none
  | _, _ => none
theorem getLast_app {α : Type} {l : List α} {x : α} (h : l.getLast? = some x) : l = l.dropLast ++ [x] := by
  cases l with
  | nil => cases h
  | cons a l =>
    have hn : a :: l ≠ [] := fun z => nomatch z
    rw [List.getLast?_eq_getLast hn] at h
    cases h
    exact (List.dropLast_concat_getLast hn).symm
theorem pushH_ok {x : U} {st' : Stt} {v : V} {hv : List V} {D : Addr} (s : Sim B w σ H st) (e : pushH x st = some st') (r : RU B w x v) (hh : w.hv = hv ++ [.ref D]) :
    ∃ acc, H D = some (.lst acc) ∧ acc.length < sizeLine ∧ Sim B w σ (upd H D (.lst (acc ++ [v]))) st' ∧ st'.r = st.r := by
  unfold pushH at e
  split at e
  · rename_i d acc eh
    split at e
    · rename_i hl
      cases e
      have eh' := getLast_app eh
      have hlen : st.h.dropLast.length = hv.length := by
        have := s.r.lenH
        rw [eh', hh] at this
        simpa using this
      obtain ⟨v', q1, a, rfl, t, vs, hc, ra⟩ := s.r.held st.h.dropLast.length (.ol acc) (by rw [eh']; simp)
      have ea : a = D := by
        rw [hh, hlen] at q1
        simpa using q1.symm
      subst ea
      have rx : Rp w.F d v := r
      have f : Free1 w H a := .inr (.inl (by rw [t]; trivial))
      have h1 := s.h.put (tg := .hold st.h.dropLast.length) (o := .lst (vs ++ [v])) f trivial fun _ z => nomatch z
      rw [set_self t] at h1
      have hz : acc.length + 1 ≤ sizeLine := lineOk_le hl
      rw [ra.length] at hz
      have ne : ∀ {b : Addr} {tg : Tag}, w.T b = tg → tg ≠ .hold st.h.dropLast.length → b ≠ a := fun {b tg} e n => by rintro rfl; exact n (e.symm.trans t)
      refine ⟨vs, hc, hz, ⟨h1, s.r.len, ?_, fun j o q => ?_, fun n o q => ?_⟩, rfl⟩
      · show (st.h.dropLast ++ [O.ol (acc ++ [d])]).length = _
        rw [← s.r.lenH, eh']
        simp
      · obtain ⟨z, z1, z2⟩ := s.r.slot j o q
        exact ⟨z, z1, z2.mono (Le.rfl' w) fun b e => ⟨upd_ne (ne e (by simp)), e⟩⟩
      · have q : (st.h.dropLast ++ [O.ol (acc ++ [d])])[n]? = some o := q
        by_cases hn : n < st.h.dropLast.length
        · rw [List.getElem?_append_left hn] at q
          obtain ⟨z, z1, z2⟩ := s.r.held n o (by rw [eh', List.getElem?_append_left hn]; exact q)
          exact ⟨z, z1, z2.mono (Le.rfl' w) fun b e => ⟨upd_ne (ne e (fun z => by cases z; omega)), e⟩⟩
        · have : n = st.h.dropLast.length := by
            have := (List.getElem?_eq_some_iff.mp q).1
            rw [List.length_append] at this
            simp only [List.length_cons, List.length_nil] at this
            omega
          subst this
          have eo : o = .ol (acc ++ [d]) := by simpa using q.symm
          subst eo
          exact ⟨.ref a, by rw [hh, hlen]; simp, a, rfl, t, _, upd_same, ra.app (.cons rx .nil)⟩
    · cases e
  · cases e
def lcTurn (g : Itm → Stt → Option Stt) (t : EvT) (f : EvU) (vs : List Nat) (it : Itm) : Stt → Option Stt := fun st => (g it st).bind fun st1 => (t st1).bind fun b =>
  if b.1 then (f b.2).bind fun q => (pushH q.1 q.2).map (wipeS vs) else some (wipeS vs b.2)
def lcLoop (k : Itm → Stt → Option Stt) : List Itm → Stt → Option Stt
  | [], st => some st
  | it :: its, st => (k it st).bind (lcLoop k its)
def lc (f : EvI) (g : Itm → Stt → Option Stt) (t : EvT) (e : EvU) (vs : List Nat) : EvO := fun st => (f st).bind fun p => (lcLoop (lcTurn g t e vs) p.1 (wipeS vs { p.2 with h := p.2.h ++ [.ol []] })).bind fun st2 =>
  st2.h.getLast?.map fun o => (o, { st2 with r := backR p.2.r st2.r vs, h := st2.h.dropLast })
/-- the comprehension's end -/
theorem Sim.lcEnd {w0 w1 : Wd} {st0 st1 : Stt} {H0 H1 : Hp} {vs : List Nat} {D : Addr} {o : O} (s0 : Sim B w0 σ H0 st0) (s1 : Sim B w1 (L2.wipe σ vs) H1 st1) (l : Lh [.ref D] w0 w1) (e : st1.h.getLast? = some o) :
    ∃ w', Le w0 w' ∧ Sim B w' σ H1 { st1 with r := backR st0.r st1.r vs, h := st1.h.dropLast } ∧ RO B w' H1 .tmp o (.ref D) := by
  have eh := getLast_app e
  have hlen : st1.h.dropLast.length = w0.hv.length := by
    have := s1.r.lenH
    rw [eh, l.hv] at this
    simpa using this
  obtain ⟨v', q1, ro⟩ := s1.r.held st1.h.dropLast.length o (by rw [eh]; simp)
  have ev : v' = .ref D := by
    rw [l.hv, hlen] at q1
    simpa using q1.symm
  subst ev
  have slots : ∀ {w' : Wd}, Lx w1 w' → (∀ (j : Nat) (o : O) (v : V), RO B w1 H1 (.slot j) o v → RO B w' H1 (.slot j) o v) → ∀ (j : Nat) (o : O), (backR st0.r st1.r vs)[j]? = some (some o) → ∃ v, σ[j]? = some (some v) ∧ RO B w' H1 (.slot j) o v := fun {w'} lx up j o q => by
    rcases backR_get q with ⟨h1, y, rfl⟩ | ⟨h1, h2⟩
    · obtain ⟨v, z1, z2⟩ := s0.r.slot j _ h1
      have l2 : Le w0 { w' with hv := w0.hv } := (l.lx.trans lx : Lx w0 w')
      exact ⟨v, z1, RU.hv (hv := w'.hv) (RU.mono l2 z2)⟩
    · obtain ⟨v, z1, z2⟩ := s1.r.slot j _ h2
      rw [wipe_out h1] at z1
      exact ⟨v, z1, up j o v z2⟩
  have lenR : (backR st0.r st1.r vs).length = σ.length := by
    rw [backR_len, s1.r.len, wipe_length]
  have held : ∀ {w' : Wd}, w'.hv = w0.hv → (∀ n o u, n ≠ st1.h.dropLast.length → RO B w1 H1 (.hold n) o u → RO B w' H1 (.hold n) o u) → ∀ (n : Nat) (u : O), st1.h.dropLast[n]? = some u → ∃ z, w'.hv[n]? = some z ∧ RO B w' H1 (.hold n) u z := fun {w'} ew up n u q => by
    have hn := (List.getElem?_eq_some_iff.mp q).1
    obtain ⟨z, z1, z2⟩ := s1.r.held n u (by rw [eh, List.getElem?_append_left hn]; exact q)
    rw [l.hv, List.getElem?_append_left (by omega)] at z1
    exact ⟨z, by rw [ew]; exact z1, up n u z (by omega) z2⟩
  rcases ro.own0 with ⟨x, rfl, rx⟩ | ⟨c, a, ea, t, hc, back⟩
  · have lx : Lx w1 { w1 with hv := w0.hv } := ⟨rfl, rfl, fun _ _ h => h, fun _ _ h => h, fun _ _ h => h, rfl⟩
    exact ⟨{ w1 with hv := w0.hv }, (l.lx.trans lx).le rfl, ⟨s1.h.hv, lenR, hlen, slots lx fun j o v r => r.hv, held rfl fun n o u _ r => r.hv⟩, rx.hv⟩
  · cases ea
    have f : Free1 w1 H1 D := .inr (.inl (by rw [t]; trivial))
    have le := s1.h.leFree f .tmp
    obtain ⟨u, ho⟩ := hc.some
    have h1 := s1.h.put (o := u) (tg := .tmp) f trivial fun u e => nomatch e
    rw [upd_self ho] at h1
    have ne : ∀ {b : Addr} {tg : Tag}, w1.T b = tg → tg ≠ .hold st1.h.dropLast.length → (w1.set D .tmp).T b = tg := fun {b tg} e n => by
      have hb : b ≠ D := by rintro rfl; exact n (e.symm.trans t)
      rw [Wd.set_ne hb, e]
    have lx : Lx w1 { w1.set D .tmp with hv := w0.hv } := ⟨le.h0, le.t0, le.fz, le.ce, le.m, rfl⟩
    refine ⟨{ w1.set D .tmp with hv := w0.hv }, (l.lx.trans lx).le rfl, ⟨h1.hv, lenR, hlen, slots lx fun j o v r => (r.mono le fun b t' => ⟨rfl, ne (tg := .slot j) t' (by simp)⟩).hv, held rfl fun n o u hn r => (r.mono le fun b t' => ⟨rfl, ne t' fun z => hn (by cases z; rfl)⟩).hv⟩, (back _ _ _ Wd.set_same (hc.mono le rfl)).hv⟩
theorem lc_ok {f : EvI} {g : Itm → Stt → Option Stt} {t : EvT} {k : EvU} {vs : List Nat} {Q : VK} (h : tE B (lc f g t k vs) σ H Q) : tLc (tI B f) (tWI B vs g) (tTs B t) (tU B k) vs σ H Q := by
  obtain ⟨w, st, o, st', s, hf, q⟩ := h
  unfold lc at hf
  cases ea : f st with
  | none => rw [ea] at hf; cases hf
  | some p =>
    obtain ⟨its, st0⟩ := p
    rw [ea, Option.bind_some] at hf
    refine ⟨w, st, its, st0, s, ea, fun w0 J H0 l0 s0 wk D hD => ?_⟩
    obtain ⟨wa, la, sa, ra⟩ := s0.newLst (ds := []) (vs := []) hD .nil
    obtain ⟨wb, lb, sb⟩ := sa.hold ra
    have lb : Lh [.ref D] w0 wb := Lh.after la lb
    have sb := sb.wipe vs
    cases el : lcLoop (lcTurn g t k vs) its (wipeS vs { st0 with h := st0.h ++ [.ol []] }) with
    | none => rw [el] at hf; cases hf
    | some stF =>
      rw [el, Option.bind_some] at hf
      have wkb : Wk B wb J its := ⟨fun w' H i l hs hi => ?_, fun w' H l hs => ?_, fun w' H i v H' l hs hi y => ?_⟩
      rotate_left
      · refine wk.go { w' with hv := w0.hv } H i ?_ hs hi
        exact (lb.lx.trans ⟨l.h0, l.t0, l.fz, l.ce, l.m, rfl⟩ : Lx w0 w')
      · refine wk.stop { w' with hv := w0.hv } H ?_ hs
        exact (lb.lx.trans ⟨l.h0, l.t0, l.fz, l.ce, l.m, rfl⟩ : Lx w0 w')
      · obtain ⟨it, e1, r⟩ := wk.yld { w' with hv := w0.hv } H i v H' (lb.lx.trans ⟨l.h0, l.t0, l.fz, l.ce, l.m, rfl⟩ : Lx w0 w') hs hi y
        refine ⟨it, e1, ?_⟩
        cases it with
        | v x => exact ⟨r.1, RU.hv (hv := w'.hv) r.2⟩
        | p x y =>
          obtain ⟨T, vx, vy, h1, h2, h3, h4, h5⟩ := r
          exact ⟨T, vx, vy, h1, h2, h3, RU.hv (hv := w'.hv) h4, RU.hv (hv := w'.hv) h5⟩
      refine ⟨fun i m H => ∃ w1 st1, Le wb w1 ∧ Sim B w1 (L2.wipe σ vs) H st1 ∧ m = its.length - i ∧ i ≤ its.length ∧ lcLoop (lcTurn g t k vs) (its.drop i) st1 = some stF, ⟨its.length, wb, _, Le.rfl' wb, sb, by simp, Nat.zero_le _, el⟩, ?_⟩
      rintro i m H1 ⟨w1, st1, l1, s1, rfl, hle, hm⟩
      by_cases hlt : i < its.length
      · refine .inr ⟨wkb.go w1 H1 i l1 s1.h.sub hlt, fun H' => ∃ m', m' < its.length - i ∧ ∃ w1 st1, Le wb w1 ∧ Sim B w1 (L2.wipe σ vs) H' st1 ∧ m' = its.length - (i + 1) ∧ i + 1 ≤ its.length ∧ lcLoop (lcTurn g t k vs) (its.drop (i + 1)) st1 = some stF, fun _ h => h, fun x H' y => ?_⟩
        obtain ⟨it, e1, r1⟩ := wkb.yld w1 H1 i x H' l1 s1.h.sub hlt y
        have ed : its.drop i = it :: its.drop (i + 1) := by
          rw [List.drop_eq_getElem_cons hlt]
          have : its[i] = it := by rw [List.getElem?_eq_getElem hlt] at e1; exact Option.some.inj e1
          rw [this]
        rw [ed] at hm
        have hm : (lcTurn g t k vs it st1).bind (lcLoop (lcTurn g t k vs) (its.drop (i + 1))) = some stF := hm
        cases eT : lcTurn g t k vs it st1 with
        | none => rw [eT] at hm; cases hm
        | some stN =>
          rw [eT, Option.bind_some] at hm
          unfold lcTurn at eT
          cases eg : g it st1 with
          | none => rw [eg] at eT; cases eT
          | some st2 =>
            rw [eg, Option.bind_some] at eT
            cases et : t st2 with
            | none => rw [et] at eT; cases eT
            | some b =>
              obtain ⟨b, st3⟩ := b
              rw [et, Option.bind_some] at eT
              refine ⟨w1, st1, H1, it, st2, s1, r1, eg, fun w2 σ2 H2 hw l2 s2 => ⟨by rw [hw]; exact wipe_wipe, w2, st2, b, st3, s2, et, fun w3 H3 l3 s3 => ?_⟩⟩
              have hw2 : L2.wipe σ2 vs = L2.wipe σ vs := by rw [hw]; exact wipe_wipe
              cases b with
              | false =>
                simp only [Bool.false_eq_true, if_false] at eT ⊢
                cases eT
                exact ⟨_, by omega, w3, _, l1.trans (l2.trans l3), s3.turned hw2, rfl, hlt, hm⟩
              | true =>
                simp only [if_true] at eT ⊢
                cases ek : k st3 with
                | none => rw [ek] at eT; cases eT
                | some z =>
                  obtain ⟨x, st4⟩ := z
                  rw [ek, Option.bind_some] at eT
                  cases ep : pushH x st4 with
                  | none => rw [ep] at eT; cases eT
                  | some st5 =>
                    rw [ep] at eT
                    cases eT
                    refine ⟨w3, st3, x, st4, s3, ek, fun w4 v4 H4 l4 s4 r4 => ?_⟩
                    have l14 := l1.trans (l2.trans (l3.trans l4))
                    obtain ⟨acc, h1, h2, s5, _⟩ := pushH_ok (hv := w0.hv) (D := D) s4 ep r4 (by rw [l14.hv, lb.hv])
                    exact ⟨acc, h1, h2, _, by omega, w4, _, l14, s5.turned hw2, rfl, hlt, hm⟩
      · have e : i = its.length := by omega
        subst e
        rw [List.drop_length] at hm
        cases hm
        refine .inl ⟨wkb.stop w1 H1 l1 s1.h.sub, ?_⟩
        cases eo : stF.h.getLast? with
        | none => rw [eo] at hf; cases hf
        | some oF =>
          rw [eo] at hf
          cases hf
          have lw : Lh [.ref D] w0 w1 := ⟨l1.h0.trans lb.h0, l1.t0.trans lb.t0, fun a o h => l1.fz a o (lb.fz a o h), fun a o h => l1.ce a o (lb.ce a o h), fun a o h => l1.m a o (lb.m a o h), by rw [l1.hv, lb.hv]⟩
          obtain ⟨w9, l9, s9, r9⟩ := s0.lcEnd s1 lw eo
          exact q w9 _ H1 (l0.trans l9) s9 r9
end
end MP

namespace MP
open PySem PySem.Spec PyProof.Rows L2

section
variable {X : Cx} {tg e e1 e2 e3 elt iter tg1 iter1 : Expr} {es ifs ifs1 : List Expr} {body : List Stmt} {pos spos : Pos} {B : Bs} {w w' : Wd} {σ : L2.St} {H H' : Hp} {st : Stt} {a : Addr}
/-- a context inside a comprehension of X's def -/
abbrev Blk (X : Cx) (scope : Scope) (s : Shared) (H : Hp) (C : Addr) (cl : List (Str × Addr)) (fp : List Addr) : Cx := X.blk s H scope (compEnvC scope cl C X.env) fp
theorem ptsW {t t' : L2.TT} (h : PTs X ifs t) (k : ∀ σ H Q, t' σ H Q → t σ H Q) : PTs X ifs t' := ⟨fun pins s σ H Q I q => h.run pins s σ H Q I (k σ H Q q)⟩
def yes : EvT := fun st => some (true, st)
theorem c_yes : PTs X [] (tTs B yes) := ptsW pts_nil fun σ H Q ⟨w, st, b, st', s, hf, q⟩ => by
  cases hf
  exact q w H (Le.rfl' w) s
theorem c_one {t : EvT} (h : PT X e (tTs B t)) : PTs X [e] (tTs B t) := pts_one h
theorem e_lc {scope : Scope} {own : List (Str × Nat)} {f : EvI} {g : Itm → Stt → Option Stt} {t : EvT} {k : EvU} {vs : List Nat} (hc : X.calm = true) (hN : X.N.Nodup) (ok : BlkOk X.N X.env.scope scope own) (hv : own.map (·.2) = vs) (hi : PI X tg iter (tI B f))
    (hg : ∀ s H C cl fp, PG (Blk X scope s H C cl fp) tg (tWI B vs g)) (ht : ∀ s H C cl fp, PTs (Blk X scope s H C cl fp) ifs (tTs B t)) (he : ∀ s H C cl fp, PE (Blk X scope s H C cl fp) elt (tU B k))
    (hs : ∀ x, foldedSetIterable iter X.env x = pure x := by intro _; rfl) : PE X (.ListComp elt [⟨tg, iter, ifs, 0⟩] scope pos) (tE B (lc f g t k vs)) := by
  subst hv
  exact peW (pe_lc hc hN hi ok hg ht he hs) fun _ _ _ h => lc_ok h
theorem s_setLc {scope : Scope} {own : List (Str × Nat)} {f : EvI} {g : Itm → Stt → Option Stt} {t : EvT} {k : EvU} {vs : List Nat} {i : Nat} {y : Str} {py : Pos} (hc : X.calm = true) (hN : X.N.Nodup) (hy : X.N[i]? = some y) (hyl : X.env.scope.names.lookup y = some .local)
    (hk : X.env.scope.kind = .function) (hl : (py.line == pos.line) = true) (hx : (scope.names.any fun (n, k) => n == y && (k == .local || k == .cell)) = false)
    (ok : BlkOk X.N X.env.scope scope own) (hv : own.map (·.2) = vs) (hi : PI X tg iter (tI B f))
    (hg : ∀ s H C cl fp, PG (Blk X scope s H C cl fp) tg (tWI B vs g)) (ht : ∀ s H C cl fp, PTs (Blk X scope s H C cl fp) ifs (tTs B t)) (he : ∀ s H C cl fp, PE (Blk X scope s H C cl fp) elt (tU B k))
    (hs : ∀ x, foldedSetIterable iter X.env x = pure x := by intro _; rfl) : PS X (.Assign [.Name y py] (.ListComp elt [⟨tg, iter, ifs, 0⟩] scope pos) spos) (tS B (sSet i (lc f g t k vs))) := by
  subst hv
  refine psW (ps_setLc hc hN hy hyl (sw_true hk hyl hl hx) hi ok hg ht he hs) fun D σ H ⟨w, st, fl, st', s, hf, q⟩ => ?_
  unfold sSet at hf
  cases ea : lc f g t k (own.map (·.2)) st with
  | none => rw [ea] at hf; cases hf
  | some p =>
    rw [ea, Option.bind_some] at hf
    split at hf
    · rename_i hlt
      cases hf
      refine lc_ok ⟨w, st, p.1, p.2, s, ea, fun w1 v H1 l1 s1 r1 => ?_⟩
      obtain ⟨w2, l2, s2⟩ := s1.setO (by rw [← s1.r.len]; exact hlt) r1
      exact q w2 _ H1 (l1.trans l2) s2
    · cases hf
/-! ### two clauses -/
def lcTurn2 (g : Itm → Stt → Option Stt) (t : EvT) (f1 : EvI) (g1 : Itm → Stt → Option Stt) (t1 : EvT) (k : EvU) (vs vs1 : List Nat) (it : Itm) : Stt → Option Stt := fun st => (g it st).bind fun st1 => (t st1).bind fun b =>
  if b.1 then (f1 b.2).bind fun p => (lcLoop (lcTurn g1 t1 k vs1) p.1 (wipeS vs1 p.2)).map (wipeS vs) else some (wipeS vs b.2)
def lc2 (f : EvI) (g : Itm → Stt → Option Stt) (t : EvT) (f1 : EvI) (g1 : Itm → Stt → Option Stt) (t1 : EvT) (k : EvU) (vs vs1 : List Nat) : EvO := fun st => (f st).bind fun p => (lcLoop (lcTurn2 g t f1 g1 t1 k vs vs1) p.1 (wipeS vs { p.2 with h := p.2.h ++ [.ol []] })).bind fun st2 =>
  st2.h.getLast?.map fun o => (o, { st2 with r := backR p.2.r st2.r vs, h := st2.h.dropLast })
theorem Wk.held {J : It} {its : List Itm} {w0 wb : Wd} {us : List V} (wk : Wk B w0 J its) (lb : Lh us w0 wb) : Wk B wb J its := by
  have lx : ∀ {w' : Wd}, Le wb w' → Le w0 { w' with hv := w0.hv } := fun {w'} l => (lb.lx.trans ⟨l.h0, l.t0, l.fz, l.ce, l.m, rfl⟩ : Lx w0 w')
  refine ⟨fun w' H i l hs hi => wk.go { w' with hv := w0.hv } H i (lx l) hs hi, fun w' H l hs => wk.stop { w' with hv := w0.hv } H (lx l) hs, fun w' H i v H' l hs hi y => ?_⟩
  obtain ⟨it, e1, r⟩ := wk.yld { w' with hv := w0.hv } H i v H' (lx l) hs hi y
  refine ⟨it, e1, ?_⟩
  cases it with
  | v x => exact ⟨r.1, RU.hv (hv := w'.hv) r.2⟩
  | p x y =>
    obtain ⟨T, vx, vy, h1, h2, h3, h4, h5⟩ := r
    exact ⟨T, vx, vy, h1, h2, h3, RU.hv (hv := w'.hv) h4, RU.hv (hv := w'.hv) h5⟩
theorem drop_cons {its : List Itm} {it : Itm} {i : Nat} (hlt : i < its.length) (e1 : its[i]? = some it) : its.drop i = it :: its.drop (i + 1) := by
  rw [List.drop_eq_getElem_cons hlt]
  rw [List.getElem?_eq_getElem hlt] at e1
  rw [Option.some.inj e1]
theorem lc2_ok {f : EvI} {g : Itm → Stt → Option Stt} {t : EvT} {f1 : EvI} {g1 : Itm → Stt → Option Stt} {t1 : EvT} {k : EvU} {vs vs1 : List Nat} {Q : VK} (hsub : ∀ i ∈ vs1, i ∈ vs) (h : tE B (lc2 f g t f1 g1 t1 k vs vs1) σ H Q) :
    tLc2 (tI B f) (tWI B vs g) (tTs B t) (tI B f1) (tWI B vs1 g1) (tTs B t1) (tU B k) vs vs1 σ H Q := by
  obtain ⟨w, st, o, st', s, hf, q⟩ := h
  unfold lc2 at hf
  cases ea : f st with
  | none => rw [ea] at hf; cases hf
  | some p =>
    obtain ⟨its, st0⟩ := p
    rw [ea, Option.bind_some] at hf
    refine ⟨w, st, its, st0, s, ea, fun w0 J H0 l0 s0 wk D hD => ?_⟩
    obtain ⟨wa, la, sa, ra⟩ := s0.newLst (ds := []) (vs := []) hD .nil
    obtain ⟨wb, lb, sb⟩ := sa.hold ra
    have lb : Lh [.ref D] w0 wb := Lh.after la lb
    have sb := sb.wipe vs
    have wkb := wk.held lb
    cases el : lcLoop (lcTurn2 g t f1 g1 t1 k vs vs1) its (wipeS vs { st0 with h := st0.h ++ [.ol []] }) with
    | none => rw [el] at hf; cases hf
    | some stF =>
      rw [el, Option.bind_some] at hf
      refine ⟨fun i m H => ∃ w1 st1, Le wb w1 ∧ Sim B w1 (L2.wipe σ vs) H st1 ∧ m = its.length - i ∧ i ≤ its.length ∧ lcLoop (lcTurn2 g t f1 g1 t1 k vs vs1) (its.drop i) st1 = some stF, ⟨its.length, wb, _, Le.rfl' wb, sb, by simp, Nat.zero_le _, el⟩, ?_⟩
      rintro i m H1 ⟨w1, st1, l1, s1, rfl, hle, hm⟩
      by_cases hlt : i < its.length
      · refine .inr ⟨wkb.go w1 H1 i l1 s1.h.sub hlt, fun H' => ∃ m', m' < its.length - i ∧ ∃ w1 st1, Le wb w1 ∧ Sim B w1 (L2.wipe σ vs) H' st1 ∧ m' = its.length - (i + 1) ∧ i + 1 ≤ its.length ∧ lcLoop (lcTurn2 g t f1 g1 t1 k vs vs1) (its.drop (i + 1)) st1 = some stF, fun _ h => h, fun x H' y => ?_⟩
        obtain ⟨it, e1, r1⟩ := wkb.yld w1 H1 i x H' l1 s1.h.sub hlt y
        rw [drop_cons hlt e1] at hm
        have hm : (lcTurn2 g t f1 g1 t1 k vs vs1 it st1).bind (lcLoop (lcTurn2 g t f1 g1 t1 k vs vs1) (its.drop (i + 1))) = some stF := hm
        cases eT : lcTurn2 g t f1 g1 t1 k vs vs1 it st1 with
        | none => rw [eT] at hm; cases hm
        | some stN =>
          rw [eT, Option.bind_some] at hm
          unfold lcTurn2 at eT
          cases eg : g it st1 with
          | none => rw [eg] at eT; cases eT
          | some st2 =>
            rw [eg, Option.bind_some] at eT
            cases et : t st2 with
            | none => rw [et] at eT; cases eT
            | some b =>
              obtain ⟨b, st3⟩ := b
              rw [et, Option.bind_some] at eT
              refine ⟨w1, st1, H1, it, st2, s1, r1, eg, fun w2 σ2 H2 hw l2 s2 => ?_⟩
              have hw2 : L2.wipe σ2 vs = L2.wipe σ vs := by rw [hw]; exact wipe_wipe
              refine ⟨hw2, w2, st2, b, st3, s2, et, fun w3 H3 l3 s3 => ?_⟩
              cases b with
              | false =>
                simp only [Bool.false_eq_true, if_false] at eT ⊢
                cases eT
                exact ⟨_, by omega, w3, _, l1.trans (l2.trans l3), s3.turned hw2, rfl, hlt, hm⟩
              | true =>
                simp only [if_true] at eT ⊢
                cases ef : f1 st3 with
                | none => rw [ef] at eT; cases eT
                | some p1 =>
                  obtain ⟨its1, st4⟩ := p1
                  rw [ef, Option.bind_some] at eT
                  refine ⟨w3, st3, its1, st4, s3, ef, fun w4 J1 H4 l4 s4 wk1 => ?_⟩
                  have l14 := l1.trans (l2.trans (l3.trans l4))
                  cases ei : lcLoop (lcTurn g1 t1 k vs1) its1 (wipeS vs1 st4) with
                  | none => rw [ei] at eT; cases eT
                  | some stI =>
                    rw [ei] at eT
                    cases eT
                    have s4 := s4.wipe vs1
                    refine ⟨fun j n H => ∃ w5 st5, Le w4 w5 ∧ Sim B w5 (L2.wipe σ2 vs1) H st5 ∧ n = its1.length - j ∧ j ≤ its1.length ∧ lcLoop (lcTurn g1 t1 k vs1) (its1.drop j) st5 = some stI, ⟨its1.length, w4, _, Le.rfl' w4, s4, by simp, Nat.zero_le _, ei⟩, ?_⟩
                    rintro j n H5 ⟨w5, st5, l5, s5, rfl, hle1, hn⟩
                    by_cases hlt1 : j < its1.length
                    · refine .inr ⟨wk1.go w5 H5 j l5 s5.h.sub hlt1, fun H' => ∃ m', m' < its1.length - j ∧ ∃ w5 st5, Le w4 w5 ∧ Sim B w5 (L2.wipe σ2 vs1) H' st5 ∧ m' = its1.length - (j + 1) ∧ j + 1 ≤ its1.length ∧ lcLoop (lcTurn g1 t1 k vs1) (its1.drop (j + 1)) st5 = some stI, fun _ h => h, fun x H' y => ?_⟩
                      obtain ⟨it1, e2, r2⟩ := wk1.yld w5 H5 j x H' l5 s5.h.sub hlt1 y
                      rw [drop_cons hlt1 e2] at hn
                      have hn : (lcTurn g1 t1 k vs1 it1 st5).bind (lcLoop (lcTurn g1 t1 k vs1) (its1.drop (j + 1))) = some stI := hn
                      cases eU : lcTurn g1 t1 k vs1 it1 st5 with
                      | none => rw [eU] at hn; cases hn
                      | some stM =>
                        rw [eU, Option.bind_some] at hn
                        unfold lcTurn at eU
                        cases eg1 : g1 it1 st5 with
                        | none => rw [eg1] at eU; cases eU
                        | some st6 =>
                          rw [eg1, Option.bind_some] at eU
                          cases et1 : t1 st6 with
                          | none => rw [et1] at eU; cases eU
                          | some b1 =>
                            obtain ⟨b1, st7⟩ := b1
                            rw [et1, Option.bind_some] at eU
                            refine ⟨w5, st5, H5, it1, st6, s5, r2, eg1, fun w6 σ6 H6 hx l6 s6 => ?_⟩
                            have hx2 : L2.wipe σ6 vs1 = L2.wipe σ2 vs1 := by rw [hx]; exact wipe_wipe
                            refine ⟨hx2, w6, st6, b1, st7, s6, et1, fun w7 H7 l7 s7 => ?_⟩
                            cases b1 with
                            | false =>
                              simp only [Bool.false_eq_true, if_false] at eU ⊢
                              cases eU
                              exact ⟨_, by omega, w7, _, l5.trans (l6.trans l7), s7.turned hx2, rfl, hlt1, hn⟩
                            | true =>
                              simp only [if_true] at eU ⊢
                              cases ek : k st7 with
                              | none => rw [ek] at eU; cases eU
                              | some z =>
                                obtain ⟨x, st8⟩ := z
                                rw [ek, Option.bind_some] at eU
                                cases ep : pushH x st8 with
                                | none => rw [ep] at eU; cases eU
                                | some st9 =>
                                  rw [ep] at eU
                                  cases eU
                                  refine ⟨w7, st7, x, st8, s7, ek, fun w8 v8 H8 l8 s8 r8 => ?_⟩
                                  have l48 := l5.trans (l6.trans (l7.trans l8))
                                  obtain ⟨acc, h1, h2, s9, _⟩ := pushH_ok (hv := w0.hv) (D := D) s8 ep r8 (by rw [l48.hv, l14.hv, lb.hv])
                                  exact ⟨acc, h1, h2, _, by omega, w8, _, l48, s9.turned hx2, rfl, hlt1, hn⟩
                    · have e : j = its1.length := by omega
                      subst e
                      rw [List.drop_length] at hn
                      cases hn
                      refine .inl ⟨wk1.stop w5 H5 l5 s5.h.sub, _, by omega, w5, _, l14.trans l5, ?_, rfl, hlt, hm⟩
                      refine s5.wipeTo (by rw [wipe_length, wipe_length]; have := congrArg List.length hw2; rw [wipe_length, wipe_length] at this; exact this.symm) fun i hi => ?_
                      rw [wipe_out fun z => hi (hsub i z), ← hw2, wipe_out hi]
      · have e : i = its.length := by omega
        subst e
        rw [List.drop_length] at hm
        cases hm
        refine .inl ⟨wkb.stop w1 H1 l1 s1.h.sub, ?_⟩
        cases eo : stF.h.getLast? with
        | none => rw [eo] at hf; cases hf
        | some oF =>
          rw [eo] at hf
          cases hf
          have lw : Lh [.ref D] w0 w1 := ⟨l1.h0.trans lb.h0, l1.t0.trans lb.t0, fun a o h => l1.fz a o (lb.fz a o h), fun a o h => l1.ce a o (lb.ce a o h), fun a o h => l1.m a o (lb.m a o h), by rw [l1.hv, lb.hv]⟩
          obtain ⟨w9, l9, s9, r9⟩ := s0.lcEnd s1 lw eo
          exact q w9 _ H1 (l0.trans l9) s9 r9
theorem e_lc2 {scope : Scope} {own : List (Str × Nat)} {f : EvI} {g : Itm → Stt → Option Stt} {t : EvT} {f1 : EvI} {g1 : Itm → Stt → Option Stt} {t1 : EvT} {k : EvU} {vs vs1 : List Nat} (hc : X.calm = true) (hN : X.N.Nodup) (ok : BlkOk X.N X.env.scope scope own) (hv : own.map (·.2) = vs) (hsub : ∀ i ∈ vs1, i ∈ vs) (hi : PI X tg iter (tI B f))
    (hg : ∀ s H C cl fp, PG (Blk X scope s H C cl fp) tg (tWI B vs g)) (ht : ∀ s H C cl fp, PTs (Blk X scope s H C cl fp) ifs (tTs B t)) (hi1 : ∀ s H C cl fp, PI (Blk X scope s H C cl fp) tg1 iter1 (tI B f1))
    (hg1 : ∀ s H C cl fp, PG (Blk X scope s H C cl fp) tg1 (tWI B vs1 g1)) (ht1 : ∀ s H C cl fp, PTs (Blk X scope s H C cl fp) ifs1 (tTs B t1)) (he : ∀ s H C cl fp, PE (Blk X scope s H C cl fp) elt (tU B k))
    (hs : ∀ x, foldedSetIterable iter X.env x = pure x := by intro _; rfl) (hs1 : ∀ env x, foldedSetIterable iter1 env x = pure x := by intro _ _; rfl) : PE X (.ListComp elt [⟨tg, iter, ifs, 0⟩, ⟨tg1, iter1, ifs1, 0⟩] scope pos) (tE B (lc2 f g t f1 g1 t1 k vs vs1)) := by
  subst hv
  exact peW (pe_lc2 hc hN hi ok hsub hg ht hi1 hg1 ht1 he hs hs1) fun _ _ _ h => lc2_ok hsub h
theorem s_setLc2 {scope : Scope} {own : List (Str × Nat)} {f : EvI} {g : Itm → Stt → Option Stt} {t : EvT} {f1 : EvI} {g1 : Itm → Stt → Option Stt} {t1 : EvT} {k : EvU} {vs vs1 : List Nat} {i : Nat} {y : Str} {py : Pos} (hc : X.calm = true) (hN : X.N.Nodup) (hy : X.N[i]? = some y) (hyl : X.env.scope.names.lookup y = some .local)
    (hk : X.env.scope.kind = .function) (hl : (py.line == pos.line) = true) (hx : (scope.names.any fun (n, k) => n == y && (k == .local || k == .cell)) = false)
    (ok : BlkOk X.N X.env.scope scope own) (hv : own.map (·.2) = vs) (hsub : ∀ i ∈ vs1, i ∈ vs) (hi : PI X tg iter (tI B f))
    (hg : ∀ s H C cl fp, PG (Blk X scope s H C cl fp) tg (tWI B vs g)) (ht : ∀ s H C cl fp, PTs (Blk X scope s H C cl fp) ifs (tTs B t)) (hi1 : ∀ s H C cl fp, PI (Blk X scope s H C cl fp) tg1 iter1 (tI B f1))
    (hg1 : ∀ s H C cl fp, PG (Blk X scope s H C cl fp) tg1 (tWI B vs1 g1)) (ht1 : ∀ s H C cl fp, PTs (Blk X scope s H C cl fp) ifs1 (tTs B t1)) (he : ∀ s H C cl fp, PE (Blk X scope s H C cl fp) elt (tU B k))
    (hs : ∀ x, foldedSetIterable iter X.env x = pure x := by intro _; rfl) (hs1 : ∀ env x, foldedSetIterable iter1 env x = pure x := by intro _ _; rfl) : PS X (.Assign [.Name y py] (.ListComp elt [⟨tg, iter, ifs, 0⟩, ⟨tg1, iter1, ifs1, 0⟩] scope pos) spos) (tS B (sSet i (lc2 f g t f1 g1 t1 k vs vs1))) := by
  subst hv
  refine psW (ps_setLc2 hc hN hy hyl (sw_true hk hyl hl hx) hi ok hsub hg ht hi1 hg1 ht1 he hs hs1) fun D σ H ⟨w, st, fl, st', s, hf, q⟩ => ?_
  unfold sSet at hf
  cases ea : lc2 f g t f1 g1 t1 k (own.map (·.2)) vs1 st with
  | none => rw [ea] at hf; cases hf
  | some p =>
    rw [ea, Option.bind_some] at hf
    split at hf
    · rename_i hlt
      cases hf
      refine lc2_ok hsub ⟨w, st, p.1, p.2, s, ea, fun w1 v H1 l1 s1 r1 => ?_⟩
      obtain ⟨w2, l2, s2⟩ := s1.setO (by rw [← s1.r.len]; exact hlt) r1
      exact q w2 _ H1 (l1.trans l2) s2
    · cases hf
end
end MP

namespace MP
open PySem PySem.Spec PyProof.Rows L2

/-! ## defs -/
structure FnG (P : Program) (w : World) (K : PySem.W.Frag) (mg : Str → Option Value) (base : Heap) (k : Nat) (f : Addr) (fd : FuncData) (ps : List Str) (sp : Sp) : Prop where
  len : ∀ vs H Q E, sp vs H Q E → vs.length = ps.length
  run : ∀ (A : Around) (outer : List Env) (s : Shared) (H : Hp) (args : Args) (us : List Value) (vs : List V) (Q : VK) (E : XK), Room k A → A.guards = some [] → Env0 P w K mg base A outer s H → BindsTo s fd args (ps.zip us) → Vals vs us → sp vs H Q E →
    codeAny (model P w) A (.call (.ref f) args) (CR CX0 outer P w H s Q E) s
section
variable {P : Program} {w : World} {K : PySem.W.Frag} {mg : Str → Option Value} {base : Heap} {j k : Nat} {f : Addr} {fd : FuncData} {N ps : List Str} {sp sp' : Sp}
theorem FnG.mono (F : FnG P w K mg base j f fd ps sp) (h : j ≤ k) : FnG P w K mg base k f fd ps sp :=
  ⟨F.len, fun A outer s H args us vs Q E hr => F.run A outer s H args us vs Q E (hr.mono h)⟩
/-- a def by its body's reading -/
theorem fnG {x qual : Str} {st : Stmt} (F : Fun K x qual st f fd) (S : FnScope N ps (defScope st)) (len : ∀ vs H Q E, sp vs H Q E → vs.length = ps.length)
    (hbody : ∀ (cdv : Value) (A : Around) (outer : List Env) (s : Shared) (H : Hp) (vs : List V) (Q : VK) (E : XK), Room k (A.deeper (envOfC qual (defScope st) s.heap.objs.size f cdv)) → (A.deeper (envOfC qual (defScope st) s.heap.objs.size f cdv)).guards = some [] → sp vs H Q E →
      ∃ t, PSs (cxOf CX0 P w K mg base N qual (defScope st) f cdv A outer s H E) (defBody st) t ∧ t { nx := fun _ H' => Q .non H', rt := Q } (L2.start N vs) H) : FnG P w K mg base (k + 1) f fd ps sp := by
  obtain ⟨oc, od, kV, doc, pm, an, cdv, ct, osl, rfl, lk, hcd⟩ := F.ex
  refine ⟨len, fun A outer s H args us vs Q E hr hgu e0 hb r hsp => ?_⟩
  have inK : K.In s.heap := e0.mod.kin.keeps fun b o e => (e0.bs b o e).1
  have noL : s.heap.NoLimit := e0.mod.nolimit.keeps fun b o e => (e0.bs b o e).1
  have kinds : ∀ y ∈ ps.zip us, (defScope st).names.lookup y.1 = some .local ∨ ((defScope st).names.lookup y.1 = some .cell ∧ ((cellsFrom (s.heap.objs.size + 1) (defScope st).names []).lookup y.1).isSome = true) := by
    rintro ⟨n, v⟩ hy
    exact (S.par n (List.of_mem_zip hy).1).imp id fun q => ⟨q, PySem.W.cellsFrom_some _ _ _ (.inl q)⟩
  refine codeAny_call_function hr.depth (inK _ _ lk) rfl S.co S.gen rfl (PySem.W.codeRec_of inK hcd) (hb _ _ _ _ (wpAny_newFunctionEnv_cells S.kind kinds ?_))
  rintro env rfl s1 x
  refine ⟨noL.keeps x.toInCall.keep, codeAny_func ?_⟩
  obtain ⟨t, ht, hq⟩ := hbody cdv A outer s H vs Q E (hr.deeper _) hgu hsp
  have I := inv_start (E := E) (CX := CX0) (cd := cdv) (f := f) (qual := qual) S hr.hd e0 (len _ _ _ _ hsp) r x
  refine wpAny_mono (ht.run [] s1 (L2.start N vs) H _ I hq) (fun fl s' hs => ?_) fun e s' hs => hs
  cases fl with
  | ret u => exact let ⟨v, σ', H', J, rv, q⟩ := hs; ⟨v, H', J.os, J.bare, J.base, J.hok, rv, q⟩
  | next => exact let ⟨σ', H', J, q⟩ := hs; ⟨V.non, H', J.os, J.bare, J.base, J.hok, rfl, q⟩
  | brk => exact let ⟨_, _, _, q⟩ := hs; q.elim
  | cont => exact let ⟨_, _, _, q⟩ := hs; q.elim
end
section
variable {X : Cx} {k : Nat} {f C : Addr} {fd : FuncData} {ps ks : List Str} {sp : Sp} {x : Str} {p pos : Pos} {e : Expr} {es : List Expr} {kws : List Keyword} {t tk : TA} {g : List Value → List Value → List Value} {gV : List V → List V → List V}
theorem runG {pins : List (Addr × Obj)} {σ : L2.St} {H : Hp} {s : Shared} {Q : VK} {args : Args} {us : List Value} {vs : List V} (F : FnG X.prog X.w X.K X.mg X.base k f fd ps sp) (hr : Room k X.A) (hgu : X.A.guards = some []) (I : Inv X pins σ H s) (hb : us.length = ps.length → BindsTo s fd args (ps.zip us))
    (r : Vals vs us) (h : sp vs H Q fun _ _ _ => False) : wpAny (model X.prog X.w) X.A (call (.ref f) args.pos args.kw) (EP X pins σ Q) X.xe s := by
  refine wpAny_call (codeAny_mono (F.run X.A X.stack s H args us vs Q _ hr hgu I.env0 (hb (by rw [← r.length]; exact F.len _ _ _ _ h)) r h) fun r s' hq => ?_)
  cases r with
  | error e => exact False.elim hq
  | ok fl =>
    cases fl with
    | ret u => exact I.after hq
    | next => exact hq.elim
    | brk => exact hq.elim
    | cont => exact hq.elim
theorem pe_callG (F : FnG X.prog X.w X.K X.mg X.base k f fd ps sp) (hr : Room k X.A) (hgu : X.A.guards = some []) (hg : Gl X x) (hm : X.mg x = some (.ref f)) (hk : PySem.W.keepIn X.K (.ref f) = true) (hb : Binds X.K fd ps [])
    (ha : PA X (e :: es) t) (hdb : (x == ("__debug__" : Str)) = false := by decide) (he : starEach (e :: es) X.env = (false, eval e X.env) :: starEach es X.env := by rfl) (hpl : (backTo pos (starEach es X.env)).any (·.1) = false := by rfl) :
    PE X (.Call (.Name x p) (e :: es) [] pos) (fun σ H Q => t σ H fun vs H1 => sp vs H1 Q fun _ _ _ => False) := by
  refine ⟨fun pins s σ H Q I h => wpAny_Call_Name_kw (ld_glob I hg hm ?_ hdb)⟩
  refine PySem.W.callWith_K (h₀ := X.base) I.ok.mod.kin hk (thn (ha.run pos pins s σ H _ I h) ?_) he hpl
  rintro us s1 ⟨vs, H1, I1, r, q⟩
  exact ⟨I1.kIn, runG (args := ⟨us, []⟩) F hr hgu I1 (fun hl => by have := hb s1 us I1.kIn (by rw [List.append_nil]; exact hl); rwa [List.append_nil] at this) r q⟩
theorem pe_callG0 (F : FnG X.prog X.w X.K X.mg X.base k f fd ps sp) (hr : Room k X.A) (hgu : X.A.guards = some []) (hg : Gl X x) (hm : X.mg x = some (.ref f)) (hk : PySem.W.keepIn X.K (.ref f) = true) (hb : Binds X.K fd ps [])
    (hdb : (x == ("__debug__" : Str)) = false := by decide) : PE X (.Call (.Name x p) [] [] pos) (fun σ H Q => sp [] H Q fun _ _ _ => False) := by
  refine ⟨fun pins s σ H Q I h => wpAny_Call_Name_kw (ld_glob I hg hm ?_ hdb)⟩
  exact PySem.W.callWith_K0 I.kIn hk (runG (args := ⟨[], []⟩) F hr hgu I (fun hl => hb s [] I.kIn hl) .nil h)
/-- how keywords bind: the order of their values -/
structure KOrd (K : PySem.W.Frag) (fd : FuncData) (ps ks : List Str) (g : {α : Type} → List α → List α → List α) : Prop where
  to : ∀ (s : Shared) (us ws : List Value), K.In s.heap → (g us ws).length = ps.length → BindsTo s fd ⟨us, ks.zip ws⟩ (ps.zip (g us ws))
  rel : ∀ {α β : Type} {R : α → β → Prop} {as : List α} {bs : List β} {cs : List α} {ds : List β}, Paired R as bs → Paired R cs ds → Paired R (g as cs) (g bs ds)
theorem pe_callGK {g : {α : Type} → List α → List α → List α} (F : FnG X.prog X.w X.K X.mg X.base k f fd ps sp) (hr : Room k X.A) (hgu : X.A.guards = some []) (hg : Gl X x) (hm : X.mg x = some (.ref f)) (hk : PySem.W.keepIn X.K (.ref f) = true) (hb : KOrd X.K fd ps ks g)
    (ha : PA X (e :: es) t) (hkw : PK X kws tk) (hall : (backToKw pos (keywordEach kws X.env)).all (·.1.isSome) = true := by rfl) (hks : (backToKw pos (keywordEach kws X.env)).filterMap (·.1) = ks := by rfl)
    (hdb : (x == ("__debug__" : Str)) = false := by decide) (he : starEach (e :: es) X.env = (false, eval e X.env) :: starEach es X.env := by rfl)
    (hpl : ((backTo pos (starEach (e :: es) X.env)).any (·.1) || (backToKw pos (keywordEach kws X.env)).any (·.1.isNone)) = false := by rfl) :
    PE X (.Call (.Name x p) (e :: es) kws pos) (fun σ H Q => t σ H fun vs H1 => tk σ H1 fun zs H2 => sp (g vs zs) H2 Q fun _ _ _ => False) := by
  refine ⟨fun pins s σ H Q I h => wpAny_Call_Name_kw (ld_glob I hg hm ?_ hdb)⟩
  refine PySem.W.callWith_KW (h₀ := X.base) I.ok.mod.kin hk hall (thn (ha.run pos pins s σ H _ I h) ?_) hpl he
  rintro us s1 ⟨vs, H1, I1, r, q⟩
  refine thn (hkw.run pos pins s1 σ H1 _ I1 q) ?_
  rintro ws s2 ⟨zs, H2, I2, rz, q2⟩
  refine ⟨I2.kIn, ?_⟩
  rw [hks]
  exact runG (args := ⟨us, ks.zip ws⟩) F hr hgu I2 (fun hl => hb.to s2 us ws I2.kIn hl) (hb.rel r rz) q2
theorem pe_callGK0 {g : {α : Type} → List α → List α → List α} (F : FnG X.prog X.w X.K X.mg X.base k f fd ps sp) (hr : Room k X.A) (hgu : X.A.guards = some []) (hg : Gl X x) (hm : X.mg x = some (.ref f)) (hk : PySem.W.keepIn X.K (.ref f) = true) (hb : KOrd X.K fd ps ks g)
    (hkw : PK X kws tk) (hall : (backToKw pos (keywordEach kws X.env)).all (·.1.isSome) = true := by rfl) (hks : (backToKw pos (keywordEach kws X.env)).filterMap (·.1) = ks := by rfl)
    (hdb : (x == ("__debug__" : Str)) = false := by decide)
    (hpl : ((backTo pos (starEach [] X.env)).any (·.1) || (backToKw pos (keywordEach kws X.env)).any (·.1.isNone)) = false := by rfl) :
    PE X (.Call (.Name x p) [] kws pos) (fun σ H Q => tk σ H fun zs H2 => sp (g [] zs) H2 Q fun _ _ _ => False) := by
  refine ⟨fun pins s σ H Q I h => wpAny_Call_Name_kw (ld_glob I hg hm ?_ hdb)⟩
  refine PySem.W.callWith_KW0 (h₀ := X.base) I.ok.mod.kin hk hall (thn (hkw.run pos pins s σ H _ I h) ?_) hpl
  rintro ws s2 ⟨zs, H2, I2, rz, q2⟩
  refine ⟨I2.kIn, ?_⟩
  rw [hks]
  exact runG (args := ⟨[], ks.zip ws⟩) F hr hgu I2 (fun hl => hb.to s2 [] ws I2.kIn hl) (hb.rel .nil rz) q2
end

theorem pairGet {α β : Type} {R : α → β → Prop} : ∀ {as : List α} {bs : List β} {i : Nat} {a : α}, Paired R as bs → as[i]? = some a → ∃ b, bs[i]? = some b ∧ R a b
  | _, _, _, _, .nil, e => by simp at e
  | _, _, 0, _, .cons r _, e => by cases e; exact ⟨_, rfl, r⟩
  | _, _, i + 1, _, .cons _ t, e => by
    obtain ⟨b, h1, h2⟩ := pairGet (i := i) t (by simpa using e)
    exact ⟨b, by simpa using h1, h2⟩
/-! ### what a def does, and its call -/
abbrev FnS := List U → List Cell → Option (O × List Cell)
def runF (n : Nat) (b : EvS) : FnS := fun xs S => match b { r := xs.map (fun x => some (.u x)) ++ List.replicate (n - xs.length) none, S := S } with
  | some (.nx, st) => some (.u (.v .none), st.S)
  | some (.rt o, st) => some (o, st.S)
  | _ => none
def outer (t : Tag) : Tag := match t with
  | .fz o => .fz o
  | .cell l => .cell l
  | _ => .no
def Wd.enter (w : Wd) (H : Hp) : Wd := { H0 := H, T0 := fun b => outer (w.T b), T := fun b => outer (w.T b), M := w.M }
def inner (t t2 : Tag) : Tag := match t, t2 with
  | .slot i, _ => .slot i
  | .hold n, _ => .hold n
  | .tmp, _ => .no
  | _, .fz o => .fz o
  | _, .cell l => .cell l
  | _, .tmp => .tmp
  | _, _ => .no
def Wd.leave (w we : Wd) : Wd := { H0 := w.H0, T0 := w.T0, T := fun b => inner (w.T b) (we.T b), M := we.M, hv := w.hv }
section
variable {B : Bs} {w w' we : Wd} {H He : Hp} {S Se : List Cell} {a : Addr}
theorem outer_fz {t : Tag} {o : HO} : outer t = .fz o ↔ t = .fz o := by cases t <;> simp [outer]
theorem outer_cell {t : Tag} {l : Nat} : outer t = .cell l ↔ t = .cell l := by cases t <;> simp [outer]
theorem outer_or (t : Tag) : outer t = .no ∨ (∃ o, outer t = .fz o) ∨ ∃ l, outer t = .cell l := by cases t <;> simp [outer]
theorem RW.re (hF : ∀ a o, w.T a = .fz o → w'.T a = .fz o) (hM : ∀ (l : Nat) (a : Addr), w.M[l]? = some a → w'.M[l]? = some a) : ∀ {x : Wv} {v : V}, RW w x v → RW w' x v
  | .v _, _, r => Rp.mono (fun a o e => Wd.F_iff.mpr (hF a o (Wd.F_iff.mp e))) r
  | .ref _, _, ⟨a, e, q⟩ => ⟨a, hM _ _ e, q⟩
theorem RFd.re (hF : ∀ a o, w.T a = .fz o → w'.T a = .fz o) (hM : ∀ (l : Nat) (a : Addr), w.M[l]? = some a → w'.M[l]? = some a) {kvs : List (PyData × Wv)} (r : RFd B w a kvs) : RFd B w' a kvs := by
  have sub : ∀ a o, w.F a = some o → w'.F a = some o := fun a o e => Wd.F_iff.mpr (hF a o (Wd.F_iff.mp e))
  rcases r with ⟨o, ys, q, r⟩ | ⟨n, o, xs, q, r⟩
  · exact .inl ⟨o, ys, sub _ _ q, pairImp (fun _ _ z => ⟨z.1, RW.re hF hM z.2⟩) r⟩
  · exact .inr ⟨n, o, xs, sub _ _ q, pairImp (fun _ _ z => ⟨z.1, z.2.1, z.2.2.1.mono sub, RW.re hF hM z.2.2.2⟩) r⟩
/-- nothing but what is frozen and what is a cell matters -/
theorem RU.re (hF : ∀ a o, w.T a = .fz o → w'.T a = .fz o) (hM : ∀ (l : Nat) (a : Addr), w.M[l]? = some a → w'.M[l]? = some a) : ∀ {x : U} {v : V}, RU B w x v → RU B w' x v
  | .v _, _, r => Rp.mono (fun a o e => Wd.F_iff.mpr (hF a o (Wd.F_iff.mp e))) r
  | .ref _, _, ⟨a, e, q⟩ => ⟨a, hM _ _ e, q⟩
  | .scr _, _, ⟨a, e, q⟩ => ⟨a, e, SqL.sub (fun a o e => Wd.F_iff.mpr (hF a o (Wd.F_iff.mp e))) q⟩
  | .fd _, _, ⟨a, e, q⟩ => ⟨a, e, RFd.re hF hM q⟩
theorem RC.re {H' : Hp} (hF : ∀ a o, w.T a = .fz o → w'.T a = .fz o) (hM : ∀ (l : Nat) (a : Addr), w.M[l]? = Option.some a → w'.M[l]? = Option.some a) (e : H' a = H a) : ∀ {c : Cell}, RC B w H a c → RC B w' H' a c
  | .cl _, ⟨vs, q, r⟩ => ⟨vs, e.trans q, r.mono fun a o e => Wd.F_iff.mpr (hF a o (Wd.F_iff.mp e))⟩
  | .cd _, .inl ⟨ys, q, r⟩ => .inl ⟨ys, e.trans q, pairImp (fun _ _ z => ⟨z.1, RU.re hF hM z.2⟩) r⟩
  | .cd _, .inr ⟨n, xs, q, r⟩ => .inr ⟨n, xs, e.trans q, pairImp (fun _ _ z => ⟨z.1, z.2.1, z.2.2.1.mono fun a o e => Wd.F_iff.mpr (hF a o (Wd.F_iff.mp e)), RU.re hF hM z.2.2.2⟩) r⟩
theorem RO.re {H' : Hp} {tg : Tag} (hF : ∀ a o, w.T a = .fz o → w'.T a = .fz o) (hM : ∀ (l : Nat) (a : Addr), w.M[l]? = some a → w'.M[l]? = some a) (e : ∀ b o, w.T b = tg → H b = some o → H' b = some o ∧ w'.T b = tg) : ∀ {o : O} {v : V}, RO B w H tg o v → RO B w' H' tg o v
  | .u _, _, r => RU.re hF hM r
  | .ol _, _, ⟨a, q, t, r⟩ => by
    obtain ⟨o, ho⟩ := RC.some r
    obtain ⟨h1, h2⟩ := e a o t ho
    exact ⟨a, q, h2, RC.re hF hM (h1.trans ho.symm) r⟩
  | .od _, _, ⟨a, q, t, r⟩ => by
    obtain ⟨o, ho⟩ := RC.some r
    obtain ⟨h1, h2⟩ := e a o t ho
    exact ⟨a, q, h2, RC.re hF hM (h1.trans ho.symm) r⟩
theorem SimH.enter (h : SimH B w H S) : SimH B (w.enter H) H S := by
  have up : ∀ a o, w.T a = .fz o → (w.enter H).T a = .fz o := fun a o e => outer_fz.mpr e
  refine ⟨fun a o e => h.fh a o (outer_fz.mp e), h.lenM, fun a l e => h.cm a l (outer_cell.mp e), fun l a c e1 e2 => ?_, fun a e => ?_, fun b o e _ => e, fun b o _ e => e, fun b => outer_or _, fun b o e => e, fun b l e => e⟩
  · obtain ⟨t, q⟩ := h.cells l a c e1 e2
    exact ⟨outer_cell.mpr t, q.re up (fun _ _ e => e) rfl⟩
  · show outer (w.T a) = .no
    rw [h.free a e]
    rfl
/-- what stands in the caller's places stands there behind the call -/
theorem stays (h : SimH B w H S) (he : SimH B we He Se) (l : Le (w.enter H) we) {o : HO} (ho : H a = some o) (hn : ∀ l, w.T a ≠ .cell l) : He a = some o :=
  he.base a o (by rw [l.h0]; exact ho) fun m z => hn m (outer_cell.mp (by rw [l.t0] at z; exact z))
theorem quiet (h : SimH B w H S) (he : SimH B we He Se) (l : Le (w.enter H) we) (hn : w.T a ≠ .no) (ho : outer (w.T a) = .no) : we.T a = .no := by
  cases e : H a with
  | none => exact absurd (h.free a e) hn
  | some o => exact he.tb a o (by rw [l.h0]; exact e) (by rw [l.t0]; exact ho)
theorem inner_fz (h : SimH B w H S) (he : SimH B we He Se) (l : Le (w.enter H) we) {o : HO} : (w.leave we).T a = .fz o ↔ we.T a = .fz o := by
  show inner (w.T a) (we.T a) = .fz o ↔ _
  cases ew : w.T a with
  | slot i => rw [quiet h he l (by rw [ew]; exact fun z => nomatch z) (by rw [ew]; rfl)]; simp [inner]
  | hold i => rw [quiet h he l (by rw [ew]; exact fun z => nomatch z) (by rw [ew]; rfl)]; simp [inner]
  | tmp => rw [quiet h he l (by rw [ew]; exact fun z => nomatch z) (by rw [ew]; rfl)]; simp [inner]
  | no => cases we.T a <;> simp [inner]
  | fz u => cases we.T a <;> simp [inner]
  | cell u => cases we.T a <;> simp [inner]
theorem inner_cell (h : SimH B w H S) (he : SimH B we He Se) (l : Le (w.enter H) we) {o : Nat} : (w.leave we).T a = .cell o ↔ we.T a = .cell o := by
  show inner (w.T a) (we.T a) = .cell o ↔ _
  cases ew : w.T a with
  | slot i => rw [quiet h he l (by rw [ew]; exact fun z => nomatch z) (by rw [ew]; rfl)]; simp [inner]
  | hold i => rw [quiet h he l (by rw [ew]; exact fun z => nomatch z) (by rw [ew]; rfl)]; simp [inner]
  | tmp => rw [quiet h he l (by rw [ew]; exact fun z => nomatch z) (by rw [ew]; rfl)]; simp [inner]
  | no => cases we.T a <;> simp [inner]
  | fz u => cases we.T a <;> simp [inner]
  | cell u => cases we.T a <;> simp [inner]
theorem inner_tmp (h : SimH B w H S) (he : SimH B we He Se) (l : Le (w.enter H) we) (e : we.T a = .tmp) : (w.leave we).T a = .tmp := by
  show inner (w.T a) (we.T a) = .tmp
  cases ew : w.T a with
  | slot i => rw [quiet h he l (by rw [ew]; exact fun z => nomatch z) (by rw [ew]; rfl)] at e; cases e
  | hold i => rw [quiet h he l (by rw [ew]; exact fun z => nomatch z) (by rw [ew]; rfl)] at e; cases e
  | tmp => rw [quiet h he l (by rw [ew]; exact fun z => nomatch z) (by rw [ew]; rfl)] at e; cases e
  | no => rw [e]; rfl
  | fz u => rw [e]; rfl
  | cell u => rw [e]; rfl
theorem Le.leave (h : SimH B w H S) (he : SimH B we He Se) (l : Le (w.enter H) we) : Le w (w.leave we) :=
  ⟨rfl, rfl, fun a o e => (inner_fz h he l).mpr (l.fz a o (outer_fz.mpr e)), fun a o e => (inner_cell h he l).mpr (l.ce a o (outer_cell.mpr e)), l.m, rfl⟩
theorem SimH.leave (h : SimH B w H S) (he : SimH B we He Se) (l : Le (w.enter H) we) : SimH B (w.leave we) He Se := by
  have le := Le.leave h he l
  have up : ∀ a o, we.T a = .fz o → (w.leave we).T a = .fz o := fun a o e => (inner_fz h he l).mpr e
  refine ⟨fun a o e => he.fh a o ((inner_fz h he l).mp e), he.lenM, fun a m e => he.cm a m ((inner_cell h he l).mp e), fun m a c e1 e2 => ?_, fun a e => ?_, fun b o e n => ?_, fun b o e n => ?_, h.t0, fun b o e => le.fz b o (h.t0f b o e), fun b m e => le.ce b m (h.t0c b m e)⟩
  · obtain ⟨t, q⟩ := he.cells m a c e1 e2
    exact ⟨(inner_cell h he l).mpr t, q.re up (fun _ _ e => e) rfl⟩
  · have t := he.free a e
    show inner (w.T a) (we.T a) = .no
    rw [t]
    have no : ∀ {o : HO}, H a = some o → (∀ l, w.T a ≠ .cell l) → False := fun {o} ho hn => by
      rw [stays h he l ho hn] at e
      cases e
    cases ew : w.T a with
    | slot i =>
      cases eh : H a with
      | none => rw [h.free a eh] at ew; cases ew
      | some o => exact (no eh (by rw [ew]; exact fun _ z => nomatch z)).elim
    | hold i =>
      cases eh : H a with
      | none => rw [h.free a eh] at ew; cases ew
      | some o => exact (no eh (by rw [ew]; exact fun _ z => nomatch z)).elim
    | tmp => rfl
    | no => rfl
    | fz u => rfl
    | cell u => rfl
  · have hb := h.base b o e n
    refine stays h he l hb fun m z => ?_
    obtain ⟨m', z'⟩ := h.own (a := b) (by rw [z]; exact fun q => nomatch q) (by rw [z]; exact fun _ q => nomatch q) e
    exact n m' z'
  · have t := h.tb b o e n
    have hb := h.base b o e fun m z => by
      rw [show w.T0 b = .no from n] at z
      cases z
    have t2 := he.tb b o (by rw [l.h0]; exact hb) (by rw [l.t0]; show outer (w.T b) = .no; rw [t]; rfl)
    show inner (w.T b) (we.T b) = .no
    rw [t, t2]
    rfl
theorem Sim.leave {σ : L2.St} {st : Stt} (s : Sim B w σ H st) (he : SimH B we He Se) (l : Le (w.enter H) we) : Sim B (w.leave we) σ He { st with S := Se } := by
  have le := Le.leave s.h he l
  have st1 : ∀ {tg : Tag}, tg.own → ∀ b o, w.T b = tg → H b = some o → He b = some o ∧ (w.leave we).T b = tg := fun {tg} ht b o e ho => by
    refine ⟨stays s.h he l ho fun m z => by rw [z] at e; subst e; exact ht, ?_⟩
    show inner (w.T b) (we.T b) = tg
    rw [e]
    cases tg <;> first | rfl | exact ht.elim
  exact ⟨s.h.leave he l, s.r.len, s.r.lenH, fun i o q => let ⟨v, q1, q2⟩ := s.r.slot i o q; ⟨v, q1, q2.re le.fz le.m (st1 (tg := .slot i) trivial)⟩, fun n o q => let ⟨v, q1, q2⟩ := s.r.held n o q; ⟨v, q1, q2.re le.fz le.m (st1 (tg := .hold n) trivial)⟩⟩
end
/-- the promise of a def that does F, of n parameters -/
def spF (B : Bs) (n : Nat) (F : FnS) : Sp := fun vs H Q _ => ∃ (w : Wd) (S : List Cell) (xs : List U) (o : O) (S' : List Cell), SimH B w H S ∧ RUs B w xs vs ∧ vs.length = n ∧ w.hv = [] ∧ F xs S = some (o, S') ∧
  ∀ w' v H', Le w w' → SimH B w' H' S' → RO B w' H' .tmp o v → Q v H'
def cal (n : Nat) (F : FnS) (g : EvL) : EvO := fun st => (g st).bind fun p => if p.1.length = n then (F p.1 p.2.S).map fun q => (q.1, { p.2 with S := q.2 }) else none
section
variable {X : Cx} {k : Nat} {f : Addr} {fd : FuncData} {ps ks : List Str} {x : Str} {p pos : Pos} {e : Expr} {es : List Expr} {kws : List Keyword} {g gk : EvL} {F : FnS} {n : Nat}
theorem spF_ok {w : Wd} {σ : L2.St} {H : Hp} {st : Stt} {xs : List U} {vs : List V} {o : O} {S' : List Cell} {B : Bs} {Q : VK} (s : Sim B w σ H st) (r : RUs B w xs vs) (hn : xs.length = n) (hF : F xs st.S = some (o, S'))
    (q : ∀ w' v H', Le w w' → Sim B w' σ H' { st with S := S' } → RO B w' H' .tmp o v → Q v H') : spF B n F vs H Q fun _ _ _ => False := by
  refine ⟨w.enter H, st.S, xs, o, S', s.h.enter, pairImp (fun a b z => RU.re (w' := w.enter H) (fun a o e => outer_fz.mpr e) (fun _ _ e => e) z) r, by rw [← Paired.length r]; exact hn, rfl, hF, fun w' v H' l h' r' => ?_⟩
  refine q (w.leave w') v H' (Le.leave s.h h' l) (s.leave h' l) (r'.re (fun a o e => (inner_fz s.h h' l).mpr e) (fun _ _ e => e) fun b o t ho => ⟨ho, inner_tmp s.h h' l t⟩)
theorem cal_ok {σ : L2.St} {H : Hp} {B : Bs} {Q : VK} (h : tE B (cal n F g) σ H Q) : tL B g σ H fun vs H1 => spF B n F vs H1 Q fun _ _ _ => False := by
  obtain ⟨w, st, o, st', s, hf, q⟩ := h
  unfold cal at hf
  cases ea : g st with
  | none => rw [ea] at hf; cases hf
  | some p =>
    rw [ea, Option.bind_some] at hf
    split at hf
    · rename_i hn
      cases eb : F p.1 p.2.S with
      | none => rw [eb] at hf; cases hf
      | some z =>
        rw [eb] at hf
        cases hf
        exact ⟨w, st, p.1, p.2, s, ea, fun w1 vs H1 l1 s1 r1 => spF_ok s1 r1 hn eb fun w' v H' l s' r' => q w' v H' (l1.trans l) s' r'⟩
    · cases hf
theorem e_call (Fn : FnG X.prog X.w X.K X.mg X.base k f fd ps (spF (bsX X) n F)) (hr : Room k X.A) (hgu : X.A.guards = some []) (hg : Gl X x) (hm : X.mg x = some (.ref f)) (hk : PySem.W.keepIn X.K (.ref f) = true) (hb : Binds X.K fd ps [])
    (ha : PA X (e :: es) (tL (bsX X) g)) (hdb : (x == ("__debug__" : Str)) = false := by decide) (he : starEach (e :: es) X.env = (false, eval e X.env) :: starEach es X.env := by rfl) (hpl : (backTo pos (starEach es X.env)).any (·.1) = false := by rfl) :
    PE X (.Call (.Name x p) (e :: es) [] pos) (tE (bsX X) (cal n F g)) := peW (pe_callG Fn hr hgu hg hm hk hb ha hdb he hpl) fun _ _ _ h => cal_ok h
theorem e_call0 (Fn : FnG X.prog X.w X.K X.mg X.base k f fd ps (spF (bsX X) n F)) (hr : Room k X.A) (hgu : X.A.guards = some []) (hg : Gl X x) (hm : X.mg x = some (.ref f)) (hk : PySem.W.keepIn X.K (.ref f) = true) (hb : Binds X.K fd ps [])
    (hdb : (x == ("__debug__" : Str)) = false := by decide) : PE X (.Call (.Name x p) [] [] pos) (tE (bsX X) (cal n F aNil)) := peW (pe_callG0 Fn hr hgu hg hm hk hb hdb) fun σ H Q h => by
  obtain ⟨w, st, xs, st', s, hf, q⟩ := cal_ok h
  cases hf
  exact q w [] H (Le.rfl' w) s .nil
/-- keywords -/
theorem pkW {t t' : TA} (h : PK X kws t) (q : ∀ σ H Q, t' σ H Q → t σ H Q) : PK X kws t' := ⟨fun p pins s σ H Q I z => h.run p pins s σ H Q I (q σ H Q z)⟩
theorem k_nil : PK X [] (tL (bsX X) aNil) := pkW pk_nil fun σ H Q ⟨w, st, x, st', s, hf, q⟩ => by
  cases hf
  exact q w _ H (Le.rfl' w) s .nil
theorem k_cons {f : EvU} {nm : Option Str} {kpos : Pos} (h1 : PE X e (tU (bsX X) f)) (h2 : PK X kws (tL (bsX X) g)) : PK X (⟨nm, e, kpos⟩ :: kws) (tL (bsX X) (aCons f g)) :=
  pkW (pk_cons h1 h2) fun σ H Q ⟨w, st, x, st', s, hf, q⟩ => by
    unfold aCons at hf
    cases ea : f st with
    | none => rw [ea] at hf; cases hf
    | some p =>
      rw [ea, Option.bind_some] at hf
      cases eb : g p.2 with
      | none => rw [eb] at hf; cases hf
      | some p2 =>
        rw [eb] at hf
        cases hf
        exact ⟨w, st, p.1, p.2, s, ea, fun w1 v1 H1 l1 s1 r1 => ⟨w1, p.2, p2.1, p2.2, s1, eb, fun w2 v2 H2 l2 s2 r2 => q w2 _ H2 (l1.trans l2) s2 (.cons (r1.mono l2) r2)⟩⟩
def ord (o : {α : Type} → List α → List α → List α) (g gk : EvL) : EvL := fun st => (g st).bind fun p => (gk p.2).map fun q => (o p.1 q.1, q.2)
theorem e_callK {o : {α : Type} → List α → List α → List α} (Fn : FnG X.prog X.w X.K X.mg X.base k f fd ps (spF (bsX X) n F)) (hr : Room k X.A) (hgu : X.A.guards = some []) (hg : Gl X x) (hm : X.mg x = some (.ref f)) (hk : PySem.W.keepIn X.K (.ref f) = true) (hb : KOrd X.K fd ps ks o)
    (ha : PA X (e :: es) (tL (bsX X) g)) (hkw : PK X kws (tL (bsX X) gk)) (hall : (backToKw pos (keywordEach kws X.env)).all (·.1.isSome) = true := by rfl) (hks : (backToKw pos (keywordEach kws X.env)).filterMap (·.1) = ks := by rfl)
    (hdb : (x == ("__debug__" : Str)) = false := by decide) (he : starEach (e :: es) X.env = (false, eval e X.env) :: starEach es X.env := by rfl)
    (hpl : ((backTo pos (starEach (e :: es) X.env)).any (·.1) || (backToKw pos (keywordEach kws X.env)).any (·.1.isNone)) = false := by rfl) :
    PE X (.Call (.Name x p) (e :: es) kws pos) (tE (bsX X) (cal n F (ord o g gk))) := peW (pe_callGK Fn hr hgu hg hm hk hb ha hkw hall hks hdb he hpl) fun σ H Q h => by
  obtain ⟨w, st, xs, st', s, hf, q⟩ := cal_ok h
  unfold ord at hf
  cases ea : g st with
  | none => rw [ea] at hf; cases hf
  | some p =>
    rw [ea, Option.bind_some] at hf
    cases eb : gk p.2 with
    | none => rw [eb] at hf; cases hf
    | some p2 =>
      rw [eb] at hf
      cases hf
      exact ⟨w, st, p.1, p.2, s, ea, fun w1 v1 H1 l1 s1 r1 => ⟨w1, p.2, p2.1, p2.2, s1, eb, fun w2 v2 H2 l2 s2 r2 => q w2 _ H2 (l1.trans l2) s2 (hb.rel (RUs.mono l2 r1) r2)⟩⟩
theorem e_callK0 {o : {α : Type} → List α → List α → List α} (Fn : FnG X.prog X.w X.K X.mg X.base k f fd ps (spF (bsX X) n F)) (hr : Room k X.A) (hgu : X.A.guards = some []) (hg : Gl X x) (hm : X.mg x = some (.ref f)) (hk : PySem.W.keepIn X.K (.ref f) = true) (hb : KOrd X.K fd ps ks o)
    (hkw : PK X kws (tL (bsX X) gk)) (hall : (backToKw pos (keywordEach kws X.env)).all (·.1.isSome) = true := by rfl) (hks : (backToKw pos (keywordEach kws X.env)).filterMap (·.1) = ks := by rfl)
    (hdb : (x == ("__debug__" : Str)) = false := by decide)
    (hpl : ((backTo pos (starEach [] X.env)).any (·.1) || (backToKw pos (keywordEach kws X.env)).any (·.1.isNone)) = false := by rfl) :
    PE X (.Call (.Name x p) [] kws pos) (tE (bsX X) (cal n F (ord o aNil gk))) := peW (pe_callGK0 Fn hr hgu hg hm hk hb hkw hall hks hdb hpl) fun σ H Q h => by
  obtain ⟨w, st, xs, st', s, hf, q⟩ := cal_ok h
  unfold ord at hf
  rw [show aNil st = some ([], st) from rfl, Option.bind_some] at hf
  cases eb : gk st with
  | none => rw [eb] at hf; cases hf
  | some p2 =>
    rw [eb] at hf
    cases hf
    exact ⟨w, st, p2.1, p2.2, s, eb, fun w2 v2 H2 l2 s2 r2 => q w2 _ H2 l2 s2 (hb.rel .nil r2)⟩
/-- a def by its body -/
theorem fnF {P : Program} {w : World} {K : PySem.W.Frag} {mg : Str → Option Value} {base : Heap} {N : List Str} {qual : Str} {st : Stmt} {b : EvS} {m : Nat} (Fu : Fun K x qual st f fd) (S : FnScope N ps (defScope st)) (hn : n = ps.length) (hm : m = N.length)
    (hbody : ∀ (cdv : Value) (A : Around) (outer : List Env) (s : Shared) (H : Hp) (E : XK), Room k (A.deeper (envOfC qual (defScope st) s.heap.objs.size f cdv)) → (A.deeper (envOfC qual (defScope st) s.heap.objs.size f cdv)).guards = some [] →
      PSs (cxOf CX0 P w K mg base N qual (defScope st) f cdv A outer s H E).nox (defBody st) (tS ⟨P, w, K⟩ b)) : FnG P w K mg base (k + 1) f fd ps (spF ⟨P, w, K⟩ n (runF m b)) := by
  subst hn hm
  refine fnG Fu S (fun vs H Q E h => ?_) fun cdv A outer s H vs Q E hr hgu h => ⟨_, (hbody cdv A outer s H E hr hgu).nox, ?_⟩
  · obtain ⟨_, _, _, _, _, _, _, h, _⟩ := h
    exact h
  obtain ⟨w0, S0, xs, o, S', h0, r, hl, hv, hF, q⟩ := h
  have hx : xs.length = vs.length := Paired.length r
  unfold runF at hF
  have sim : Sim ⟨P, w, K⟩ w0 (L2.start N vs) H { r := xs.map (fun x => some (.u x)) ++ List.replicate (N.length - xs.length) none, S := S0 } := by
    refine ⟨h0, ?_, ?_, fun i o e => ?_, fun n o e => ?_⟩
    · unfold L2.start
      simp [hx]
    · rw [hv]
      rfl
    · have e : (xs.map (fun x => some (O.u x)) ++ List.replicate (N.length - xs.length) none)[i]? = some (some o) := e
      by_cases hi : i < xs.length
      · rw [List.getElem?_append_left (by simpa using hi), List.getElem?_map] at e
        rw [List.getElem?_eq_getElem hi] at e
        cases e
        obtain ⟨v, e1, e2⟩ := pairGet r (List.getElem?_eq_getElem hi)
        refine ⟨v, ?_, e2⟩
        unfold L2.start
        rw [List.getElem?_append_left (by simpa [← hx] using hi), List.getElem?_map, e1]
        rfl
      · rw [List.getElem?_append_right (by simpa using hi), List.getElem?_replicate] at e
        split at e <;> cases e
    · cases e
  split at hF
  · rename_i st1 eb
    cases hF
    exact ⟨w0, _, _, _, sim, eb, fun w' σ' H' l s' => q w' .non H' l s'.h .non⟩
  · rename_i o1 st1 eb
    cases hF
    exact ⟨w0, _, _, _, sim, eb, fun w' v σ' H' l s' r' => q w' v H' l s'.h r'⟩
  · cases hF
end
end MP

namespace MP
open PySem PySem.Spec PyProof.Rows L2

section
variable {X : Cx} {e e1 e2 e3 o : Expr} {es : List Expr} {pos apos : Pos} {B : Bs} {w w' : Wd} {σ : L2.St} {H : Hp} {st : Stt} {a : Addr} {fa fb : EvU}

/-! ### comparisons as tests -/
section
variable (ha : PE X e1 (tU (bsX X) fa)) (hb : PE X e2 (tU (bsX X) fb))
include ha hb
theorem t_lt : PT X (.Compare e1 [.Lt] [e2] pos) (tTs (bsX X) (tst (bin iLt fa fb))) := t_two ha hb op_lt (g_int0 fun _ _ _ => .bl _) (nomark _)
theorem t_le : PT X (.Compare e1 [.LtE] [e2] pos) (tTs (bsX X) (tst (bin iLe fa fb))) := t_two ha hb op_le (g_int0 fun _ _ _ => .bl _) (nomark _)
theorem t_gt : PT X (.Compare e1 [.Gt] [e2] pos) (tTs (bsX X) (tst (bin iGt fa fb))) := t_two ha hb op_gt (g_int0 fun _ _ _ => .bl _) (nomark _)
theorem t_ge : PT X (.Compare e1 [.GtE] [e2] pos) (tTs (bsX X) (tst (bin iGe fa fb))) := t_two ha hb op_ge (g_int0 fun _ _ _ => .bl _) (nomark _)
theorem t_is : PT X (.Compare e1 [.Is] [e2] pos) (tTs (bsX X) (tst (bin gIs fa fb))) :=
  t_two ha hb op_isN (fun x y z e w σ H st vx vy Q s rx ry q => by
    unfold gIs at e
    split at e
    · cases e
      cases ry
      exact ⟨rfl, by rw [isNone_ok rx]; exact q w _ H (Le.rfl' w) s (.bl _)⟩
    · cases e) (nomark _)
theorem t_isnot : PT X (.Compare e1 [.IsNot] [e2] pos) (tTs (bsX X) (tst (bin gIsNot fa fb))) :=
  t_two ha hb op_notN (fun x y z e w σ H st vx vy Q s rx ry q => by
    unfold gIsNot at e
    split at e
    · cases e
      cases ry
      exact ⟨rfl, by rw [isNone_ok rx]; exact q w _ H (Le.rfl' w) s (.bl _)⟩
    · cases e) (nomark _)
end
/-! ### ==, != of what is only looked at -/
def sqD : Sq → Option PyData
  | .l xs => some (.list xs)
  | .t xs => some (.tuple xs)
  | .s z => some (.str z)
  | .d _ => none
def plainO (st : Stt) : Hn → Option PyData
  | .u (.v d) => some d
  | .sl i => match st.r[i]? with
    | some (some (.u (.v d))) => some d
    | _ => none
  | _ => none
def datO (st : Stt) (h : Hn) : Option PyData := match plainO st h with
  | some d => some d
  | none => (look st h).bind sqD
theorem plainO_ok (s : Sim B w σ H st) : ∀ {h : Hn} {v : V} {d : PyData}, RH B w σ h v → plainO st h = some d → Dp B.K H v d
  | .u (.v _), v, d, r, e => by
    cases e
    exact Rp.dp s.h.sub r
  | .u (.ref _), _, _, _, e => by cases e
  | .u (.scr _), _, _, _, e => by cases e
  | .u (.fd _), _, _, _, e => by cases e
  | .sl i, v, d, r, e => by
    have e : (match st.r[i]? with
      | some (some (.u (.v d))) => some d
      | _ => none) = some d := e
    split at e
    · rename_i d' er
      cases e
      obtain ⟨v', e1, e2⟩ := s.r.slot i _ er
      have r : σ[i]? = some (some v) := r
      rw [r] at e1
      cases e1
      exact Rp.dp s.h.sub e2
    · cases e
theorem datO_ok (s : Sim B w σ H st) {h : Hn} {v : V} {d : PyData} (r : RH B w σ h v) (e : datO st h = some d) : Dp B.K H v d := by
  unfold datO at e
  cases ep : plainO st h with
  | some d' =>
    rw [ep] at e
    cases e
    exact plainO_ok s r ep
  | none =>
    rw [ep] at e
    cases el : look st h with
    | none =>
      simp only [el] at e
      cases e
    | some c =>
      simp only [el, Option.bind_some] at e
      have rq := look_ok s r el
      cases c with
      | l xs =>
        cases e
        obtain ⟨a, vs, rfl, q, ra⟩ := rq
        exact ra.dpL s.h.sub q
      | t xs =>
        cases e
        obtain ⟨a, vs, rfl, q, ra, _⟩ := rq
        exact ra.dpT s.h.sub q
      | s z =>
        cases e
        have rq : v = .str z := rq
        subst rq
        exact .str z
      | d kvs => cases e
def eqR (neg : Bool) (f g : EvR) : EvU := fun st => (f st).bind fun p => (g p.2).bind fun q => (datO q.2 p.1).bind fun d => (datO q.2 q.1).bind fun d2 =>
  if SeqAt.shaped d && SeqAt.shaped d2 then some (.v (.bool (PyData.eqv d d2 != neg)), q.2) else none
theorem eqR_ok {neg : Bool} {f g : EvR} {r : R2} (hr : ∀ {v v2 : V} {d d2 : PyData} {H : Hp} {Q : VK}, Dp B.K H v d → Dp B.K H v2 d2 → SeqAt.shaped d = true → SeqAt.shaped d2 = true → Q (.bl (PyData.eqv d d2 != neg)) H → r v v2 H Q) {σ : L2.St} {H : Hp} {Q : VK} (h : tU B (eqR neg f g) σ H Q) :
    tOp r (tR B f) (tR B g) σ H Q := by
  obtain ⟨w, st, z, st', s, hf, q⟩ := h
  unfold eqR at hf
  cases ea : f st with
  | none => rw [ea] at hf; cases hf
  | some p =>
    rw [ea, Option.bind_some] at hf
    cases eb : g p.2 with
    | none => rw [eb] at hf; cases hf
    | some p2 =>
      rw [eb, Option.bind_some] at hf
      cases ec : datO p2.2 p.1 with
      | none => rw [ec] at hf; cases hf
      | some d =>
        rw [ec, Option.bind_some] at hf
        cases ed : datO p2.2 p2.1 with
        | none => rw [ed] at hf; cases hf
        | some d2 =>
          rw [ed, Option.bind_some] at hf
          split at hf
          · rename_i hc
            cases hf
            have hc := Bool.and_eq_true_iff.mp hc
            exact ⟨w, st, p.1, p.2, s, ea, fun w1 v1 H1 l1 s1 r1 => ⟨w1, p.2, p2.1, p2.2, s1, eb, fun w2 v2 H2 l2 s2 r2 =>
              hr (datO_ok s2 (r1.mono l2) ec) (datO_ok s2 r2 ed) hc.1 hc.2 (q w2 _ H2 (l1.trans l2) s2 (.bl _))⟩⟩
          · cases hf
theorem e_eqR {k : Nat} (hr : Room k X.A) {f g : EvR} (ha : PE X e1 (tR (bsX X) f)) (hb : PE X e2 (tR (bsX X) g)) : PE X (.Compare e1 [.Eq] [e2] pos) (tU (bsX X) (eqR false f g)) :=
  peW (pe_cmpR (op_eqD hr.units) ha hb (nomark _)) fun _ _ _ h => eqR_ok (fun h1 h2 s1 s2 q => ⟨_, _, h1, h2, s1, s2, by simpa using q⟩) h
theorem e_neR {k : Nat} (hr : Room k X.A) {f g : EvR} (ha : PE X e1 (tR (bsX X) f)) (hb : PE X e2 (tR (bsX X) g)) : PE X (.Compare e1 [.NotEq] [e2] pos) (tU (bsX X) (eqR true f g)) :=
  peW (pe_cmpR (op_neD hr.units) ha hb (nomark _)) fun _ _ _ h => eqR_ok (fun h1 h2 s1 s2 q => ⟨_, _, h1, h2, s1, s2, by simpa using q⟩) h
theorem t_eqR {k : Nat} (hr : Room k X.A) {f g : EvR} (ha : PE X e1 (tR (bsX X) f)) (hb : PE X e2 (tR (bsX X) g)) : PT X (.Compare e1 [.Eq] [e2] pos) (tTs (bsX X) (tst (eqR false f g))) :=
  ptW (pt_cmpR (op_eqD hr.units) ha hb (nomark _)) fun _ _ _ h => eqR_ok (fun h1 h2 s1 s2 q => ⟨_, _, h1, h2, s1, s2, by simpa using q⟩) (tst_ok h)
theorem t_neR {k : Nat} (hr : Room k X.A) {f g : EvR} (ha : PE X e1 (tR (bsX X) f)) (hb : PE X e2 (tR (bsX X) g)) : PT X (.Compare e1 [.NotEq] [e2] pos) (tTs (bsX X) (tst (eqR true f g))) :=
  ptW (pt_cmpR (op_neD hr.units) ha hb (nomark _)) fun _ _ _ h => eqR_ok (fun h1 h2 s1 s2 q => ⟨_, _, h1, h2, s1, s2, by simpa using q⟩) (tst_ok h)
/-! ### a value's truth -/
def truU : U → Option Bool
  | .v .none => some false
  | .v (.bool b) => some b
  | .v (.int i) => some (i != 0)
  | .v (.list xs) => some !xs.isEmpty
  | .v (.tuple xs) => some !xs.isEmpty
  | .v (.str z) => if lineOk z.length then some ((z.length : Int) != 0) else none
  | _ => none
def tru (f : EvU) : EvT := fun st => (f st).bind fun p => (truU p.1).map fun b => (b, p.2)
theorem truU_ok (s : SimH B w H st.S) {x : U} {b : Bool} {v : V} (e : truU x = some b) (r : RU B w x v) : TruV B.K v H b := by
  have emp : ∀ {ds : List PyData} {vs : List V}, RpAll w.F ds vs → (!ds.isEmpty) = !vs.isEmpty := fun {ds vs} r => by cases r <;> rfl
  unfold truU at e
  split at e
  · cases e
    cases (show Rp w.F _ v from r)
    rfl
  · cases e
    cases (show Rp w.F _ v from r)
    rfl
  · cases e
    cases (show Rp w.F _ v from r)
    rfl
  · cases e
    cases (show Rp w.F _ v from r) with
    | lst ex ra => exact .inl ⟨_, SqL.of (s.sub _ _ ex), emp ra⟩
  · cases e
    cases (show Rp w.F _ v from r) with
    | tup ex dx ra => exact .inr (.inl ⟨_, .inl (.inr ⟨_, s.sub _ _ ex⟩), emp ra⟩)
  · split at e
    · rename_i hl
      cases e
      cases (show Rp w.F _ v from r)
      exact ⟨lineOk_le hl, rfl⟩
    · cases e
  · cases e
theorem t_tru {f : EvU} (h : PE X e (tU (bsX X) f)) (he : ∀ whole, isTrue e X.env whole = (do let v ← whole; standAt e.pos; holding [v] (truthy v)) := by intro _; rfl) : PT X e (tTs (bsX X) (tru f)) :=
  ptW (pt_truth h he) fun σ H Q ⟨w, st, b, st', s, hf, q⟩ => by
    unfold tru at hf
    cases ea : f st with
    | none => rw [ea] at hf; cases hf
    | some p =>
      rw [ea, Option.bind_some] at hf
      cases eb : truU p.1 with
      | none => rw [eb] at hf; cases hf
      | some c =>
        rw [eb] at hf
        cases hf
        exact ⟨w, st, p.1, p.2, s, ea, fun w1 v1 H1 l1 s1 r1 => ⟨_, truU_ok s1.h eb r1, q w1 H1 l1 s1⟩⟩
end
end MP

namespace MP
open PySem PySem.Spec PyProof.Rows L2

section
variable {X : Cx} {e e1 e2 e3 o : Expr} {es : List Expr} {pos apos : Pos} {B : Bs} {w w' : Wd} {σ : L2.St} {H : Hp} {st : Stt} {a D : Addr}

/-! ## dicts are made -/
theorem Sim.newDict (s : Sim B w σ H st) (hp : H D = none) : ∃ w', Le w w' ∧ Sim B w' σ (upd H D (.dK [])) st ∧ RO B w' (upd H D (.dK [])) .tmp (.od []) (.ref D) := by
  obtain ⟨le, s2⟩ := s.putNew hp (tg := .tmp) (o := .dK []) trivial (fun _ z => nomatch z) fun u e => nomatch e
  exact ⟨_, le, s2, D, rfl, Wd.set_same, .inl ⟨[], upd_same, .nil⟩⟩
def dnew : EvO := fun st => some (.od [], st)
theorem e_dnew : PE X (.Dict [] [] pos) (tE B dnew) := peW pe_dnewK fun σ H Q ⟨w, st, o, st', s, hf, q⟩ p hp => by
  cases hf
  obtain ⟨w', l, s', r'⟩ := s.newDict hp
  exact q w' _ _ l s' r'
/-- what is held last gets another content -/
theorem Sim.heldC (s : Sim B w σ H st) {h : List O} {o o' : O} {hv : List V} {u : HO} (eh : st.h = h ++ [o]) (hh : w.hv = hv ++ [.ref D]) (t : w.T D = .hold h.length) (r' : RO B w (upd H D u) (.hold h.length) o' (.ref D)) :
    Sim B w σ (upd H D u) { st with h := h ++ [o'] } := by
  have hlen : h.length = hv.length := by
    have := s.r.lenH
    rw [eh, hh] at this
    simpa using this
  have f : Free1 w H D := .inr (.inl (by rw [t]; trivial))
  have h1 := s.h.put (tg := .hold h.length) (o := u) f trivial fun _ z => nomatch z
  rw [set_self t] at h1
  have ne : ∀ {b : Addr} {tg : Tag}, w.T b = tg → tg ≠ .hold h.length → b ≠ D := fun {b tg} e n => by rintro rfl; exact n (e.symm.trans t)
  refine ⟨h1, s.r.len, ?_, fun j o q => ?_, fun n o q => ?_⟩
  · have := s.r.lenH
    rw [eh] at this
    simpa using this
  · obtain ⟨z, z1, z2⟩ := s.r.slot j o q
    exact ⟨z, z1, z2.mono (Le.rfl' w) fun b e => ⟨upd_ne (ne e (by simp)), e⟩⟩
  · have q : (h ++ [o'])[n]? = some o := q
    by_cases hn : n < h.length
    · rw [List.getElem?_append_left hn] at q
      obtain ⟨z, z1, z2⟩ := s.r.held n o (by rw [eh, List.getElem?_append_left hn]; exact q)
      exact ⟨z, z1, z2.mono (Le.rfl' w) fun b e => ⟨upd_ne (ne e (fun z => by cases z; omega)), e⟩⟩
    · have : n = h.length := by
        have := (List.getElem?_eq_some_iff.mp q).1
        rw [List.length_append] at this
        simp only [List.length_cons, List.length_nil] at this
        omega
      subst this
      have eo : o = o' := by simpa using q.symm
      subst eo
      exact ⟨.ref D, by rw [hh, hlen]; simp, r'⟩
/-- the pairs of a display -/
def evP : List (EvU × EvU) → Stt → Option (List (PyData × U) × Stt)
  | [], st => some ([], st)
  | (f, g) :: r, st => (f st).bind fun p => match p.1 with
    | .v k => (g p.2).bind fun q => (evP r q.2).map fun z => ((k, q.1) :: z.1, z.2)
    | _ => none
def PR (B : Bs) (w : Wd) (p : PyData × U) (q : V × V) : Prop := Rp w.F p.1 q.1 ∧ RU B w p.2 q.2
theorem tPairs_ok : ∀ (ps : List (EvU × EvU)) {w : Wd} {st : Stt} {l : List (PyData × U)} {st' : Stt} {σ : L2.St} {H : Hp} {Q : List (V × V) → Hp → Prop}, Sim B w σ H st → evP ps st = some (l, st') →
    (∀ w' vs H', Le w w' → Sim B w' σ H' st' → Paired (PR B w') l vs → Q vs H') → tPairs (ps.map fun p => (tU B p.1, tU B p.2)) σ H Q
  | [], w, st, l, st', σ, H, Q, s, e, q => by
    cases e
    exact q w [] H (Le.rfl' w) s .nil
  | (f, g) :: r, w, st, l, st', σ, H, Q, s, e, q => by
    unfold evP at e
    cases ea : f st with
    | none => rw [ea] at e; cases e
    | some p =>
      obtain ⟨x, st1⟩ := p
      rw [ea, Option.bind_some] at e
      split at e
      · rename_i k ek
        have ek : x = .v k := ek
        subst ek
        cases eb : g st1 with
        | none => rw [eb] at e; cases e
        | some p2 =>
          rw [eb, Option.bind_some] at e
          cases ec : evP r p2.2 with
          | none => rw [ec] at e; cases e
          | some z =>
            rw [ec] at e
            cases e
            refine ⟨w, st, _, _, s, ea, fun w1 v1 H1 l1 s1 r1 => ⟨w1, st1, p2.1, p2.2, s1, eb, fun w2 v2 H2 l2 s2 r2 => ?_⟩⟩
            exact tPairs_ok r s2 ec fun w3 vs H3 l3 s3 r3 => q w3 _ H3 (l1.trans (l2.trans l3)) s3 (.cons ⟨Rp.mono (l2.trans l3).sub r1, r2.mono l3⟩ r3)
      · cases e
def putAll (l : List (PyData × U)) : List (PyData × U) := l.foldl (fun d p => dput d p.1 p.2) []
def dspF (ps : List (EvU × EvU)) : EvO := fun st => (evP ps { st with h := st.h ++ [.od []] }).bind fun q => match q.2.h.getLast? with
  | some (.od []) => if q.1.all (fun p => (keyV p.1).isSome) && decide (q.1.length ≤ 15) then some (.od (putAll q.1), { q.2 with h := q.2.h.dropLast }) else none
  | _ => none
def dspT (ps : List (EvU × EvU)) : EvO := fun st => (evP ps { st with h := st.h ++ [.od []] }).bind fun q => match q.2.h.getLast? with
  | some (.od []) => if q.1.all (fun p => isTup p.1 && (kf p.1).isSome) && decide (q.1.length ≤ 15) && decide (q.1 ≠ []) then some (.od (putAll q.1), { q.2 with h := q.2.h.dropLast }) else none
  | _ => none
theorem flat_all : ∀ {l : List (PyData × U)} {vs : List (V × V)}, Paired (PR B w) l vs → (l.all fun p => (keyV p.1).isSome) = true → ∃ kvs : List (Key × V), vs = kvs.map (fun kv => (kV kv.1, kv.2)) ∧ Paired (KK B w) l kvs
  | _, _, .nil, _ => ⟨[], rfl, .nil⟩
  | _, _, .cons (a := p) (b := q) r t, h => by
    rw [List.all_cons] at h
    have h := Bool.and_eq_true_iff.mp h
    obtain ⟨c, e⟩ := Option.isSome_iff_exists.mp h.1
    obtain ⟨kvs, rfl, tt⟩ := flat_all t h.2
    obtain ⟨k, v⟩ := q
    have ek : k = kV c := key_ref e r.1
    subst ek
    exact ⟨(c, v) :: kvs, rfl, .cons ⟨e, r.2⟩ tt⟩
theorem kk_all : ∀ {l : List (PyData × U)} {kvs : List (Key × V)}, Paired (KK B w) l kvs → ∀ {d : List (PyData × U)} {ys : List (Key × V)}, Paired (KK B w) d ys → Paired (KK B w) (l.foldl (fun d p => dput d p.1 p.2) d) (mergeK ys kvs)
  | _, _, .nil, _, _, tt => tt
  | _, _, .cons r t, _, _, tt => kk_all t (kk_put r.1 r.2 tt)
theorem heldNil (s : Sim B w σ H st) {h : List O} {hv : List V} (eh : st.h = h ++ [.od []]) (hh : w.hv = hv ++ [.ref D]) : w.T D = .hold h.length ∧ H D = some (.dK []) := by
  have hlen : h.length = hv.length := by
    have := s.r.lenH
    rw [eh, hh] at this
    simpa using this
  obtain ⟨v', q1, b, eb, t, rd⟩ := s.r.held h.length (.od []) (by rw [eh]; simp)
  rw [hh, hlen] at q1
  have : v' = .ref D := by simpa using q1.symm
  rw [this] at eb
  cases eb
  rcases rd with ⟨ys, e, r⟩ | ⟨n, _⟩
  · cases r
    exact ⟨t, e⟩
  · exact absurd rfl n
theorem Lh.trans' {vs : List V} {a b c : Wd} (p : Lh vs a b) (q : Le b c) : Lh vs a c :=
  ⟨q.h0.trans p.h0, q.t0.trans p.t0, fun x o h => q.fz x o (p.fz x o h), fun x l h => q.ce x l (p.ce x l h), fun l x h => q.m l x (p.m l x h), by rw [q.hv, p.hv]⟩
theorem e_dspF {ps : List (EvU × EvU)} {keys : List (Option Expr)} {values : List Expr} (h : PPs X pos keys values (ps.map fun p => (tU B p.1, tU B p.2))) (hall : keys.all (·.isSome) = true) (hl : keys.length = values.length) (h0 : keys ≠ []) (h15 : keys.length ≤ 15) :
    PE X (.Dict keys values pos) (tE B (dspF ps)) := peW (pe_disp h hall hl h0 h15) fun σ H Q ⟨w, st, o, st', s, hf, q⟩ D hD => by
  unfold dspF at hf
  cases ea : evP ps { st with h := st.h ++ [.od []] } with
  | none => rw [ea] at hf; cases hf
  | some z =>
    obtain ⟨l, st2⟩ := z
    rw [ea, Option.bind_some] at hf
    obtain ⟨wa, la, sa, ra⟩ := s.newDict hD
    obtain ⟨wb, lb, sb⟩ := sa.hold ra
    have lb : Lh [.ref D] w wb := Lh.after la lb
    refine tPairs_ok ps sb ea fun w2 vs H2 l2 s2 r2 => ?_
    split at hf
    · rename_i eh
      split at hf
      · rename_i hc
        cases hf
        have hc := Bool.and_eq_true_iff.mp hc
        have eh := getLast_app eh
        have lw : Lh [.ref D] w w2 := lb.trans' l2
        obtain ⟨t, hd⟩ := heldNil s2 eh lw.hv
        obtain ⟨kvs, rfl, kk⟩ := flat_all r2 hc.1
        refine ⟨hd, kvs, rfl, by rw [← Paired.length kk]; exact of_decide_eq_true hc.2, ?_⟩
        have s3 := s2.heldC (o' := .od (putAll l)) (u := .dK (mergeK [] kvs)) eh lw.hv t ⟨D, rfl, t, .inl ⟨_, upd_same, kk_all kk .nil⟩⟩
        obtain ⟨w4, l4, s4, r4⟩ := s.lcEnd (vs := []) s3 lw (o := .od (putAll l)) (by simp)
        have s4 : Sim B w4 σ _ { st2 with h := (st2.h.dropLast ++ [O.od (putAll l)]).dropLast } := s4
        rw [List.dropLast_concat] at s4
        exact q w4 _ _ l4 s4 r4
      · cases hf
    · cases hf
/-- keys that are tuples -/
theorem tup_all {pins : List (Addr × Obj)} {s : Shared} (I : Inv X pins σ H s) (hs : ∀ a o, w.F a = some o → H a = some o) : ∀ {l : List (PyData × U)} {vs : List (V × V)} {us : List (Value × Value)}, Paired (PR (bsX X) w) l vs → VV vs us → (l.all fun p => isTup p.1 && (kf p.1).isSome) = true →
    ∃ ys : List (NestedKey × Addr × Value), CarriesH (nestedKind X.prog X.w) s.heap us ys ∧ Paired (TT (bsX X) w) l ys
  | _, _, _, .nil, .nil, _ => ⟨[], trivial, .nil⟩
  | _, _, _, .cons (a := p) (b := q) r t, .cons (b := u) r2 t2, h => by
    rw [List.all_cons] at h
    have h := Bool.and_eq_true_iff.mp h
    have h1 := Bool.and_eq_true_iff.mp h.1
    obtain ⟨c, e⟩ := Option.isSome_iff_exists.mp h1.2
    obtain ⟨ys, cy, tt⟩ := tup_all I hs t t2 h.2
    obtain ⟨k, v⟩ := q
    obtain ⟨uk, uv⟩ := u
    obtain ⟨b, ek⟩ := tup_ref h1.1 r.1
    have ek : k = .ref b := ek
    subst ek
    have eu : uk = .ref b := r2.1
    subst eu
    exact ⟨(c, b, uv) :: ys, ⟨rfl, rfl, key_is I hs r.1 e, cy⟩, .cons ⟨e, h1.1, r.1, v, r.2, r2.2⟩ tt⟩
theorem tt_all : ∀ {l : List (PyData × U)} {ps : List (NestedKey × Addr × Value)}, Paired (TT B w) l ps → ∀ {d : List (PyData × U)} {ys : List (NestedKey × Addr × Value)}, Paired (TT B w) d ys → Paired (TT B w) (l.foldl (fun d p => dput d p.1 p.2) d) (storedAllH ys ps)
  | _, _, .nil, _, _, tt => tt
  | _, _, .cons (a := p) (b := q) r t, _, _, tt => by
    obtain ⟨k, t1, rk, v, rx, rv⟩ := r
    exact tt_all t (tt_put k t1 rk rx rv tt)
theorem storedAllH_le : ∀ (ps ys : List (NestedKey × Addr × Value)), (storedAllH ys ps).length ≤ ys.length + ps.length
  | [], ys => by show ys.length ≤ ys.length + 0; omega
  | p :: ps, ys => by
    have h1 := storedAllH_le ps (storedH ys p.1 p.2.1 p.2.2)
    have h2 := storedH_length ys p.1 p.2.1 p.2.2
    show (storedAllH (storedH ys p.1 p.2.1 p.2.2) ps).length ≤ _
    rw [List.length_cons]
    omega
def rDisT (B : Bs) (trs : List (TE × TE)) : TE := fun σ H Q => ∀ p, H p = none → tPairs trs σ (upd H p (.dK [])) fun vs H2 => H2 p = some (.dK []) ∧ ∃ (w : Wd) (l : List (PyData × U)), (∀ a o, w.F a = some o → H2 a = some o) ∧ Paired (PR B w) l vs ∧
  (l.all fun p => isTup p.1 && (kf p.1).isSome) = true ∧ l.length ≤ 15 ∧ l ≠ [] ∧ ∀ u, RDict B w (upd H2 p u) p (putAll l) → Q (.ref p) (upd H2 p u)
theorem dput_ne {d : List (PyData × U)} {k : PyData} {x : U} : dput d k x ≠ [] := by
  unfold dput
  split
  · rename_i h
    cases d with
    | nil => exact absurd h (by simp [dget])
    | cons p d => simp
  · simp
theorem putAll_ne {l : List (PyData × U)} (h : l ≠ []) : putAll l ≠ [] := by
  have mono : ∀ (l d : List (PyData × U)), d ≠ [] → l.foldl (fun d p => dput d p.1 p.2) d ≠ [] := by
    intro l
    induction l with
    | nil => exact fun d h => h
    | cons p l ih => exact fun d hd => ih _ dput_ne
  cases l with
  | nil => exact absurd rfl h
  | cons p l => exact mono l _ dput_ne
theorem pe_dispT {keys : List (Option Expr)} {values : List Expr} {trs : List (TE × TE)} (hu : X.A.units + 64 < cLine) (h : PPs X pos keys values trs) (hall : keys.all (·.isSome) = true) (hl : keys.length = values.length) (h0 : keys ≠ [])
    (h15 : keys.length ≤ 15) : PE X (.Dict keys values pos) (rDisT (bsX X) trs) := by
  refine ⟨fun pins s σ H Q I q => ?_⟩
  have hn := I.hok.fresh (Nat.le_refl s.heap.objs.size)
  have I1 := I.laid (a := s.heap.objs.size) (o := .dK []) (h' := s.heap.push { cls := .type "dict", data := .dict #[] }) (t' := s.toks) (fun _ _ q => Heap.get?_push_of_some _ q) (Nat.le_refl _) (dk_empty s.heap I.big)
  have len := pairTrees_length keys values X.env pos hall hl
  rw [arm_eval_Dict, zip_pairTrees keys values X.env pos hall hl, dictDisplay_pairs _ (by
    intro z
    rw [z] at len
    exact h0 (List.length_eq_zero_iff.mp len.symm)) (by rw [len]; omega)]
  refine wpAny_bind (wpAny_standAt (wpAny_bind (wpAny_subDictH (knd := nestedKind X.prog X.w) (Q := fun d s' => wpAny (model X.prog X.w) X.A (pure (Value.ref d)) _ X.xe s') (by show X.A.units + 8 < cLine; omega) (by rw [len]; exact h15) ?_)))
  refine thn (h.run pins _ σ _ _ I1 (q _ hn)) ?_
  rintro us s2 ⟨vs, H2, I2, rel, e, w, l, hs, rp, hc, hl15, hne, q2⟩
  obtain ⟨ys, cy, tt⟩ := tup_all I2 hs rp rel hc
  have nil := d_open (w := w) (kvs := []) I2 hs rfl (.inl ⟨[], .inl e, .nil⟩)
  obtain ⟨y0, dd, t0, hd, _⟩ := nil
  cases t0
  refine ⟨ys, cy, dd, fun h' tk dd' sb => wpAny_pure ?_⟩
  have hz : (storedAllH [] ys).length ≤ sizeLine := by
    have h1 := storedAllH_le ys []
    rw [List.length_nil, ← Paired.length tt] at h1
    rw [line_eq]
    omega
  have pa := tt_all tt (.nil : Paired (TT (bsX X) w) [] [])
  obtain ⟨xs, ok, pp⟩ := d_close (H' := upd H2 s.heap.objs.size (dHO X.prog X.w s.heap.objs.size [])) dd' pa hd hz
  obtain ⟨xs, ok, pp⟩ := d_close (H' := upd H2 s.heap.objs.size (dHO X.prog X.w s.heap.objs.size xs)) dd' pa hd hz
  obtain ⟨ob, es, ep, h1, _⟩ := id dd'
  exact ⟨.ref s.heap.objs.size, _, d_write I2 (by rw [e]; exact True.intro) sb ⟨ob, h1⟩ ok, rfl, q2 _ (.inr ⟨putAll_ne hne, xs, upd_same, pp⟩)⟩
theorem e_dspT {k : Nat} (hr : Room k X.A) {ps : List (EvU × EvU)} {keys : List (Option Expr)} {values : List Expr} (h : PPs X pos keys values (ps.map fun p => (tU (bsX X) p.1, tU (bsX X) p.2))) (hall : keys.all (·.isSome) = true) (hl : keys.length = values.length) (h0 : keys ≠ []) (h15 : keys.length ≤ 15) :
    PE X (.Dict keys values pos) (tE (bsX X) (dspT ps)) := peW (pe_dispT hr.units h hall hl h0 h15) fun σ H Q ⟨w, st, o, st', s, hf, q⟩ D hD => by
  unfold dspT at hf
  cases ea : evP ps { st with h := st.h ++ [.od []] } with
  | none => rw [ea] at hf; cases hf
  | some z =>
    obtain ⟨l, st2⟩ := z
    rw [ea, Option.bind_some] at hf
    obtain ⟨wa, la, sa, ra⟩ := s.newDict hD
    obtain ⟨wb, lb, sb⟩ := sa.hold ra
    have lb : Lh [.ref D] w wb := Lh.after la lb
    refine tPairs_ok ps sb ea fun w2 vs H2 l2 s2 r2 => ?_
    split at hf
    · rename_i eh
      split at hf
      · rename_i hc
        cases hf
        simp only [Bool.and_eq_true, decide_eq_true_eq] at hc
        obtain ⟨⟨c1, c2⟩, c3⟩ := hc
        have eh := getLast_app eh
        have lw : Lh [.ref D] w w2 := lb.trans' l2
        obtain ⟨t, hd⟩ := heldNil s2 eh lw.hv
        refine ⟨hd, w2, l, s2.h.sub, r2, by simpa using c1, c2, c3, fun u rd => ?_⟩
        have s3 := s2.heldC (o' := .od (putAll l)) (u := u) eh lw.hv t ⟨D, rfl, t, rd⟩
        obtain ⟨w4, l4, s4, r4⟩ := s.lcEnd (vs := []) s3 lw (o := .od (putAll l)) (by simp)
        have s4 : Sim (bsX X) w4 σ _ { st2 with h := (st2.h.dropLast ++ [O.od (putAll l)]).dropLast } := s4
        rw [List.dropLast_concat] at s4
        exact q w4 _ _ l4 s4 r4
      · cases hf
    · cases hf

/-! ### setdefault, keys that are tuples -/
def sdk (kvs : List (PyData × U)) (k : PyData) : Bool := isTup k && tupKeys kvs && (kf k).isSome && decide (kvs.length < 16777216)
def rSdf (B : Bs) : V → List V → Hp → VK → Prop := fun x vs H Q => ∃ (w : Wd) (kvs : List (PyData × U)) (k : PyData) (z : U) (a : Addr) (vk vz : V), x = .ref a ∧ vs = [vk, vz] ∧ (∀ a o, w.F a = some o → H a = some o) ∧ RDict B w H a kvs ∧ Rp w.F k vk ∧ RU B w z vz ∧ sdk kvs k = true ∧
  (∀ y, dget kvs k = some y → ∀ v, RU B w y v → Q v H) ∧ (dget kvs k = none → ∀ u, RDict B w (upd H a u) a (dput kvs k z) → Q vz (upd H a u))
theorem mt_sdf (hu : X.A.units + 64 < cLine) : MtR X "dict.setdefault" (rSdf (bsX X)) := by
  rintro pins s σ H x vs v us Q I rx rs ⟨w, kvs, k, z, a, vk, vz, rfl, rfl, hF, hd, rk, rz, hc, q1, q2⟩
  cases rx
  simp only [sdk, Bool.and_eq_true, decide_eq_true_eq] at hc
  obtain ⟨⟨⟨t, tk⟩, hk⟩, hl⟩ := hc
  obtain ⟨c, e⟩ := Option.isSome_iff_exists.mp hk
  obtain ⟨u1, u2, rfl, ra, rb⟩ : ∃ u1 u2, us = [u1, u2] ∧ RelV vk u1 ∧ RelV vz u2 := by
    cases rs with
    | cons p q =>
      cases q with
      | cons p' q' =>
        cases q'
        exact ⟨_, _, rfl, p, p'⟩
  obtain ⟨ys, dd, tt, hsys, hz⟩ := d_open I hF tk hd.r
  obtain ⟨b, rfl⟩ := tup_ref t rk
  cases ra
  have hn : kvs.length = ys.length := Paired.length tt
  refine call_setdefault_heap (hsz := hz) (by show X.A.in1.units + 8 < cLine; show X.A.units + 1 + 8 < cLine; omega) (key_is I hF rk e) hsys dd (fun p hp => ?_) fun hno h' dd' sb => ?_
  · rcases tt_find e tt with ⟨_, z'⟩ | ⟨y, v, p', hx, hp', r1, r2⟩
    · rw [hp] at z'
      cases z'
    · rw [hp] at hp'
      cases hp'
      exact ⟨v, H, I.tok _, r2, q1 y hx v r1⟩
  · rcases tt_find e tt with ⟨hx, _⟩ | ⟨y, v, p', hx, hp', r1, r2⟩
    · have hp := tt_put e t rk rz rb tt
      have hle : (storedH ys c b u2).length ≤ sizeLine := by
        have := storedH_length ys c b u2
        rw [line_eq]
        omega
      obtain ⟨xs, ok, pp⟩ := d_close (H' := upd H a (dHO X.prog X.w a [])) dd' hp hsys hle
      obtain ⟨xs, ok, pp⟩ := d_close (H' := upd H a (dHO X.prog X.w a xs)) dd' hp hsys hle
      obtain ⟨ob, es, ep, h1, _⟩ := id dd'
      exact ⟨vz, _, d_write I (RC.mut (c := .cd kvs) hd) sb ⟨ob, h1⟩ ok, rb, q2 hx _ (.inr ⟨dput_tup t, xs, upd_same, pp⟩)⟩
    · rw [hno] at hp'
      cases hp'
def sdf (f : EvR) (g : EvL) : EvU := fun st => (f st).bind fun p => (getD p.2 p.1).bind fun _ => (g p.2).bind fun q => (getD q.2 p.1).bind fun kvs => match q.1 with
  | [.v k, z] => if sdk kvs k then match dget kvs k with
    | some y => some (y, q.2)
    | none => some (z, putD q.2 (dput kvs k z) p.1) else none
  | _ => none
theorem e_sdf {k : Nat} (hr : Room k X.A) {f : EvR} {g : EvL} (ho : PE X o (tR (bsX X) f)) (ha : PA X (e :: es) (tL (bsX X) g))
    (hb : attributeBase o "setdefault" X.env (eval o X.env) = eval o X.env := by rfl)
    (hf : ((backTo pos (starEach (e :: es) X.env)).all (fun x => !x.1) && (backToKw pos (keywordEach [] X.env)).all (fun x => x.1.isSome) && decide ((e :: es).length + ([] : List Keyword).length + (if ([] : List Keyword).isEmpty then 0 else 1) < 30)) = true := by rfl)
    (hl : (apos.endLine == pos.line) = true := by rfl) (hs : starEach (e :: es) X.env = (false, eval e X.env) :: starEach es X.env := by rfl) (hp : (backTo pos (starEach es X.env)).any (·.1) = false := by rfl) :
    PE X (.Call (.Attribute o "setdefault" apos) (e :: es) [] pos) (tU (bsX X) (sdf f g)) :=
  peW (pe_m (mtOne PySem.F.plainAttrs_dict PySem.F.slot_dict_setdefault PySem.F.type_dict_setdefault (mt_sdf hr.units) isD) ho ha hb hf hl hs hp) fun σ H Q ⟨w, st, x, st', s, hf, q⟩ => by
    unfold sdf at hf
    cases ea : f st with
    | none => rw [ea] at hf; cases hf
    | some p =>
      rw [ea, Option.bind_some] at hf
      cases el : getD p.2 p.1 with
      | none => rw [el] at hf; cases hf
      | some k0 =>
        rw [el, Option.bind_some] at hf
        cases eb : g p.2 with
        | none => rw [eb] at hf; cases hf
        | some p2 =>
          obtain ⟨ys, st2⟩ := p2
          rw [eb, Option.bind_some] at hf
          cases el2 : getD st2 p.1 with
          | none => simp only [el2] at hf; cases hf
          | some kvs =>
            simp only [el2, Option.bind_some] at hf
            refine ⟨w, st, p.1, p.2, s, ea, fun w1 v1 H1 l1 s1 r1 => ⟨"dict", ⟨rfl, ?_⟩, w1, p.2, ys, st2, s1, eb, fun w2 vs H2 l2 s2 r2 => ?_⟩⟩
            · obtain ⟨a, e, q1, _⟩ := getD_ok s1 r1 el
              exact ⟨a, w1, k0, e, q1.r⟩
            · obtain ⟨a, rfl, q1, q2⟩ := getD_ok s2 (r1.mono l2) el2
              split at hf
              · rename_i k z
                split at hf
                · rename_i hc
                  cases r2 with
                  | cons ra rr =>
                    cases rr with
                    | cons rb rr =>
                      cases rr
                      refine ⟨w2, kvs, k, z, a, _, _, rfl, rfl, s2.h.sub, q1, ra, rb, hc, fun y hy v ry => ?_, fun hn u rd => ?_⟩
                      · rw [hy] at hf
                        cases hf
                        exact q w2 v H2 (l1.trans l2) s2 ry
                      · rw [hn] at hf
                        cases hf
                        exact q w2 _ _ (l1.trans l2) (q2 u _ rd) rb
                · cases hf
              · cases hf
end
end MP

namespace MP
open PySem PySem.Spec PyProof.Rows L2
/-- a def of the top that does F, with k calls' room -/
structure Df (P : Program) (w : World) (K : PySem.W.Frag) (mg : Str → Option Value) (base : Heap) (k : Nat) (x : Str) (f : Addr) (fd : FuncData) (ps : List Str) (n : Nat) (F : FnS) : Prop where
  m : mg x = some (.ref f)
  kp : PySem.W.keepIn K (.ref f) = true
  b : Binds K fd ps []
  fn : FnG P w K mg base k f fd ps (spF ⟨P, w, K⟩ n F)
theorem Df.up {P : Program} {w : World} {K : PySem.W.Frag} {mg : Str → Option Value} {base : Heap} {j k : Nat} {x : Str} {f : Addr} {fd : FuncData} {ps : List Str} {n : Nat} {F : FnS} (D : Df P w K mg base j x f fd ps n F) (h : j ≤ k) : Df P w K mg base k x f fd ps n F :=
  ⟨D.m, D.kp, D.b, D.fn.mono h⟩
section
variable {X : Cx} {o e : Expr} {es : List Expr} {pos apos : Pos} {f : EvR} {g : EvL}
theorem L_append (ho : PE X o (tR (bsX X) f)) (ha : PA X (e :: es) (tL (bsX X) g)) (hb : attributeBase o "append" X.env (eval o X.env) = eval o X.env := by rfl)
    (hf : ((backTo pos (starEach (e :: es) X.env)).all (fun x => !x.1) && (backToKw pos (keywordEach [] X.env)).all (fun x => x.1.isSome) && decide ((e :: es).length + ([] : List Keyword).length + (if ([] : List Keyword).isEmpty then 0 else 1) < 30)) = true := by rfl)
    (hl : (apos.endLine == pos.line) = true := by rfl) (hs : starEach (e :: es) X.env = (false, eval e X.env) :: starEach es X.env := by rfl) (hp : (backTo pos (starEach es X.env)).any (·.1) = false := by rfl) :
    PE X (.Call (.Attribute o "append" apos) (e :: es) [] pos) (tU (bsX X) (lmt kAppend f g)) := e_lmt PySem.F.slot_list_append PySem.F.type_list_append mt_append km_append ho ha hb hf hl hs hp
theorem L_extend (ho : PE X o (tR (bsX X) f)) (ha : PA X (e :: es) (tL (bsX X) g)) (hb : attributeBase o "extend" X.env (eval o X.env) = eval o X.env := by rfl)
    (hf : ((backTo pos (starEach (e :: es) X.env)).all (fun x => !x.1) && (backToKw pos (keywordEach [] X.env)).all (fun x => x.1.isSome) && decide ((e :: es).length + ([] : List Keyword).length + (if ([] : List Keyword).isEmpty then 0 else 1) < 30)) = true := by rfl)
    (hl : (apos.endLine == pos.line) = true := by rfl) (hs : starEach (e :: es) X.env = (false, eval e X.env) :: starEach es X.env := by rfl) (hp : (backTo pos (starEach es X.env)).any (·.1) = false := by rfl) :
    PE X (.Call (.Attribute o "extend" apos) (e :: es) [] pos) (tU (bsX X) (lmt kExtend f g)) := e_lmt PySem.F.slot_list_extend PySem.F.type_list_extend mt_extend km_extend ho ha hb hf hl hs hp
theorem L_insert (ho : PE X o (tR (bsX X) f)) (ha : PA X (e :: es) (tL (bsX X) g)) (hb : attributeBase o "insert" X.env (eval o X.env) = eval o X.env := by rfl)
    (hf : ((backTo pos (starEach (e :: es) X.env)).all (fun x => !x.1) && (backToKw pos (keywordEach [] X.env)).all (fun x => x.1.isSome) && decide ((e :: es).length + ([] : List Keyword).length + (if ([] : List Keyword).isEmpty then 0 else 1) < 30)) = true := by rfl)
    (hl : (apos.endLine == pos.line) = true := by rfl) (hs : starEach (e :: es) X.env = (false, eval e X.env) :: starEach es X.env := by rfl) (hp : (backTo pos (starEach es X.env)).any (·.1) = false := by rfl) :
    PE X (.Call (.Attribute o "insert" apos) (e :: es) [] pos) (tU (bsX X) (lmt kInsert f g)) := e_lmt PySem.F.slot_list_insert PySem.F.type_list_insert mt_insert km_insert ho ha hb hf hl hs hp
theorem L_pop (ho : PE X o (tR (bsX X) f)) (ha : PA X (e :: es) (tL (bsX X) g)) (hb : attributeBase o "pop" X.env (eval o X.env) = eval o X.env := by rfl)
    (hf : ((backTo pos (starEach (e :: es) X.env)).all (fun x => !x.1) && (backToKw pos (keywordEach [] X.env)).all (fun x => x.1.isSome) && decide ((e :: es).length + ([] : List Keyword).length + (if ([] : List Keyword).isEmpty then 0 else 1) < 30)) = true := by rfl)
    (hl : (apos.endLine == pos.line) = true := by rfl) (hs : starEach (e :: es) X.env = (false, eval e X.env) :: starEach es X.env := by rfl) (hp : (backTo pos (starEach es X.env)).any (·.1) = false := by rfl) :
    PE X (.Call (.Attribute o "pop" apos) (e :: es) [] pos) (tU (bsX X) (lmt kPopAt f g)) := e_lmt PySem.F.slot_list_pop PySem.F.type_list_pop mt_popAt km_popAt ho ha hb hf hl hs hp
theorem L_pop0 (ho : PE X o (tR (bsX X) f)) (hb : attributeBase o "pop" X.env (eval o X.env) = eval o X.env := by rfl) (hl : (apos.endLine == pos.line) = true := by rfl) :
    PE X (.Call (.Attribute o "pop" apos) [] [] pos) (tU (bsX X) (lmt0 kPop f)) := e_lmt0 PySem.F.slot_list_pop PySem.F.type_list_pop mt_pop km_pop ho hb hl
end
end MP

namespace MP
open PySem PySem.Spec PyProof.Rows L2

/-! ## the law is called -/
/-- the promise of a law that answers True to every script of at most n allI -/
def spLaw (K : PySem.W.Frag) : Sp := fun vs H Q _ => ∃ (a : Addr) (ns : List Int), vs = [.ref a] ∧ ns.length ≤ 63 ∧ Only H ∧ SqL K H a (ns.map V.int) ∧ ∀ H', Q (.bl true) H'
theorem callLaw {P : Program} {w : World} {K : PySem.W.Frag} {mg mb : Str → Option Value} {k : Nat} {fa a : Addr} {fd : FuncData} {x : Str} {t : Shared} {us : List Value} {ns : List Int}
    (inK : K.In t.heap) (gns : t.heap.Ns mainGlobals mg) (bns : t.heap.Ns builtinsNs mb) (boot : ∀ x : Str, x ≠ "__name__" → mb x = bootBuiltins x) (free : t.heap.NoLimit) (gens : t.gens = #[])
    (there : t.heap.get? a = some { cls := .type "list", data := .seq us.toArray }) (allI : IntsAre us ns) (few : ns.length ≤ 63) (room : Room k callerA)
    (F : ∀ base : Heap, K.In base → base.Ns mainGlobals mg → FnG P w K mg base k fa fd [x] (spLaw K)) (binds : ∀ (s : Shared) (u : Value), BindsTo s fd ⟨[u], []⟩ [(x, u)]) :
    codeAny (model P w) callerA (.call (.ref fa) ⟨[.ref a], []⟩) (fun r s' => r = .ok (.ret (.bool true)) ∧ OldK t.heap s'.heap ∧ s'.os = t.os ∧ AllBare s'.gens) t := by
  have vs := vals_ints allI
  have big : ns.length ≤ sizeLine := by rw [line_eq]; omega
  have from_ : ∀ H : Hp, Only H → SqL K H a (ns.map V.int) → HOk P w H t.heap → (∀ b, H b ≠ none → b = a ∧ K.lookup a = none) →
      codeAny (model P w) callerA (.call (.ref fa) ⟨[.ref a], []⟩) (fun r s' => r = .ok (.ret (.bool true)) ∧ OldK t.heap s'.heap ∧ s'.os = t.os ∧ AllBare s'.gens) t := by
    intro H only sq ok own
    have not : ∀ {b : Addr} {o : Obj}, t.heap.get? b = some o → (∀ n, o.data ≠ .seq us.toArray n) ∨ K.lookup b = some o → H b = none := fun {b o} e d => by
      cases q : H b with
      | none => rfl
      | some z =>
        obtain ⟨rfl, no⟩ := own b (by rw [q]; exact fun z => nomatch z)
        rw [there] at e
        cases e
        rcases d with d | d
        · exact absurd rfl (d _)
        · rw [no] at d
          cases d
    have base_ : ∀ {b : Addr} {o : Obj}, t.heap.get? b = some o → H b = none → (hidT t.heap H).get? b = some o := fun e n => hidT_get e n
    have nsTo : ∀ {b : Addr} {m : Str → Option Value}, t.heap.Ns b m → (hidT t.heap H).Ns b m := fun {b m} z => by
      obtain ⟨o, es, ep, e, d, r⟩ := z
      exact ⟨o, es, ep, base_ e (not e (.inl fun n q => by rw [d] at q; cases q)), d, r⟩
    have inB : K.In (hidT t.heap H) := fun b o e => base_ (inK b o e) (not (inK b o e) (.inr e))
    have md : Mod K mg (hidT t.heap H) := ⟨inB, nsTo gns, ⟨mb, nsTo bns, boot⟩, by
      obtain ⟨mc, h1, h2⟩ := free
      exact ⟨mc, nsTo h1, h2⟩⟩
    have env : Env0 P w K mg (hidT t.heap H) callerA [] t H := ⟨rfl, md, fun b o e => of_hidT e, Nat.le_of_eq (hidT_size _ _), trivial, fun b hb => absurd (show b ∈ ([] : List Addr) from hb) (by simp), ok, .of_eq gens⟩
    refine codeAny_mono ((F _ inB (nsTo gns)).run callerA [] t H ⟨[.ref a], []⟩ [.ref a] [.ref a] (fun v _ => v = .bl true) (fun _ _ _ => False) room rfl env (binds t (.ref a)) (.cons rfl .nil) ⟨a, ns, rfl, few, only, sq, fun _ => rfl⟩) fun r s' h => ?_
    cases r with
    | error e => exact False.elim h
    | ok fl =>
      cases fl with
      | ret u =>
        obtain ⟨v, H', os, bare, un, ok', rv, rfl⟩ := h
        obtain rfl : u = Value.bool true := rv
        refine ⟨rfl, OldK.of_keep fun b o e => ?_, os, bare⟩
        cases q : H b with
        | none => exact un.keep b o e q (fun z => absurd (show b ∈ ([] : List Addr) from z) (by simp)) (by simp)
        | some z =>
          rcases only b with n | ⟨ob, xs, n⟩
          · rw [q] at n
            cases n
          · obtain ⟨g1, _⟩ := ok b _ n
            obtain ⟨g2, _⟩ := ok' b _ (un.frzs b ob _ n)
            rw [e] at g1
            cases g1
            exact g2
      | next => exact False.elim h
      | brk => exact False.elim h
      | cont => exact False.elim h
  cases lk : K.lookup a with
  | some o =>
    have e := inK a o lk
    rw [there] at e
    cases e
    exact from_ (fun _ => none) (fun _ => .inl rfl) (.inr ⟨_, us.toArray, _, lk, rfl, rfl, rfl, by rw [List.size_toArray, allI.length]; exact big, by simpa using vs⟩) (fun b u z => nomatch (show (none : Option HO) = some u from z)) fun b z => absurd rfl z
  | none =>
    have at_ : ∀ {b : Addr} {u : HO}, (if b = a then some (HO.frz { cls := .type "list", data := .seq us.toArray } (.lst (ns.map V.int))) else none) = some u → b = a ∧ u = .frz { cls := .type "list", data := .seq us.toArray } (.lst (ns.map V.int)) := fun {b u} z => by
      split at z
      · rename_i hb
        cases z
        exact ⟨hb, rfl⟩
      · cases z
    refine from_ (fun b => if b = a then some (.frz { cls := .type "list", data := .seq us.toArray } (.lst (ns.map V.int))) else none) (fun b => ?_) (.inl (.inr ⟨{ cls := .type "list", data := .seq us.toArray }, if_pos rfl⟩)) (fun b u z => ?_) fun b z => ⟨?_, lk⟩
    · by_cases hb : b = a
      · exact .inr ⟨_, _, if_pos hb⟩
      · exact .inl (if_neg hb)
    · obtain ⟨rfl, rfl⟩ := at_ z
      exact ⟨there, by rw [List.length_map]; exact big, us, _, vs, there⟩
    · by_cases hb : b = a
      · exact hb
      · exact absurd (if_neg hb) z
theorem walkLaw {l : PySem.W.OpenLaw} {k : Nat} {q : Program} {loose : List Str} {XP : (Str → Option Value) → Heap → Prop} {YP : World → Heap → Prop} {d : DefRec} {K : Params → PySem.W.Frag} {x : Str}
    (most : l.most = some 63) (plain : d.params.defaults = []) (room : Room k callerA) (inK : ∀ (w : World) (h : Heap), YP w h → (K w.params).In h)
    (F : ∀ (w : World) (mg : Str → Option Value) (fa : Addr) (h : Heap), (K w.params).In h → h.Ns mainGlobals mg → mg d.name = some (.ref fa) →
      ∃ fd : FuncData, (∀ (s : Shared) (u : Value), BindsTo s fd ⟨[u], []⟩ [(x, u)]) ∧ ∀ base : Heap, (K w.params).In base → base.Ns mainGlobals mg → FnG l.prog w (K w.params) mg base k fa fd [x] (spLaw (K w.params))) :
    PySem.W.WalkO q loose XP YP l.row.toRowW d [] (fun f vs => PySem.call f vs) := by
  refine Att.attach_call most plain ?_
  intro w s0 t mg mb fa o pm cd doc a us ns G Y ho hd hcd hmg there allI few gens
  have KX := inK w _ Y
  obtain ⟨fd, hb, hF⟩ := F w mg fa _ KX G.T.g hmg
  exact callLaw KX G.T.g G.T.b G.T.builtins G.T.nolimit gens there allI few room hF hb
/-- a def as it stands behind the top -/
def AtK (K : PySem.W.Frag) (x : Str) (st : Stmt) : Prop := ∃ (f : Addr) (fd : FuncData), PySem.W.nsIn K mainGlobals x = some (some (.ref f)) ∧ Fun K x x st f fd
theorem atK {K : PySem.W.Frag} {x : Str} {st : Stmt} {f : Addr} {oc kV doc pm cdv ct : Value} {od an : Option Addr} {osl : Array (Option Value)} (a : PySem.W.nsIn K mainGlobals x = some (some (.ref f)))
    (l : K.lookup f = some ⟨oc, od, .func (PySem.W.fnOf x x (defArgs st) (defBody st) (defScope st) .none kV doc pm an cdv ct), osl⟩) (c : PySem.W.codeIn K cdv x = true) (k : PySem.W.keepIn K (.ref f) = true) : AtK K x st :=
  ⟨f, _, a, fun_mk l c k⟩
theorem AtK.get {K : PySem.W.Frag} {x : Str} {st : Stmt} {h : Heap} {mg : Str → Option Value} (A : AtK K x st) (inK : K.In h) (ns : h.Ns mainGlobals mg) : ∃ (f : Addr) (fd : FuncData), mg x = some (.ref f) ∧ Fun K x x st f fd := by
  obtain ⟨f, fd, a, F⟩ := A
  exact ⟨f, fd, PySem.W.mg_of inK ns a, F⟩
theorem Fun.one {K : PySem.W.Frag} {x : Str} {st : Stmt} {f : Addr} {fd : FuncData} {p : Str} (F : Fun K x x st f fd) (h : ∀ (kV doc pm : Value) (an : Option Addr) (cdv ct : Value) (u : Value), bindArgs (PySem.W.fnOf x x (defArgs st) (defBody st) (defScope st) .none kV doc pm an cdv ct) ⟨[u], []⟩ = pure [(p, u)]) :
    ∀ (s : Shared) (u : Value), BindsTo s fd ⟨[u], []⟩ [(p, u)] := by
  obtain ⟨oc, od, kV, doc, pm, an, cdv, ct, osl, rfl, lk, hcd⟩ := F.ex
  exact fun s u => .of_eq (h _ _ _ _ _ _ u)
theorem Fun.ord {K : PySem.W.Frag} {x : Str} {st : Stmt} {f : Addr} {fd : FuncData} {ps ks : List Str} {g : {α : Type} → List α → List α → List α} (F : Fun K x x st f fd)
    (h : ∀ (kV doc pm : Value) (an : Option Addr) (cdv ct : Value) (us ws : List Value), (g us ws).length = ps.length → bindArgs (PySem.W.fnOf x x (defArgs st) (defBody st) (defScope st) .none kV doc pm an cdv ct) ⟨us, ks.zip ws⟩ = pure (ps.zip (g us ws)))
    (rel : ∀ {α β : Type} {R : α → β → Prop} {as : List α} {bs : List β} {cs : List α} {ds : List β}, Paired R as bs → Paired R cs ds → Paired R (g as cs) (g bs ds)) : KOrd K fd ps ks g := by
  obtain ⟨oc, od, kV, doc, pm, an, cdv, ct, osl, rfl, lk, hcd⟩ := F.ex
  exact ⟨fun s us ws _ hl => .of_eq (h _ _ _ _ _ _ us ws hl), rel⟩
/-- from what the law's def does -/
theorem FnG.law {P : Program} {w : World} {K : PySem.W.Frag} {mg : Str → Option Value} {base : Heap} {k : Nat} {f : Addr} {fd : FuncData} {x : Str} {F : FnS} (G : FnG P w K mg base k f fd [x] (spF ⟨P, w, K⟩ 1 F))
    (h : ∀ ns : List Int, ns.length ≤ 63 → ∃ S, F [.scr ns] [] = some (.u (.v (.bool true)), S)) : FnG P w K mg base k f fd [x] (spLaw K) := by
  refine ⟨fun vs H Q E z => ?_, fun A outer s H args us vs Q E hr hgu e0 hb r z => ?_⟩
  · obtain ⟨a, ns, rfl, _⟩ := z
    rfl
  · obtain ⟨a, ns, rfl, few, only, sq, q⟩ := z
    obtain ⟨S, e⟩ := h ns few
    refine G.run A outer s H args us _ Q E hr hgu e0 hb r ?_
    let T : Addr → Tag := fun b => match H b with
      | some o => .fz o
      | none => .no
    have hF : ∀ b o, T b = .fz o ↔ H b = some o := fun b o => by
      show (match H b with | some o => Tag.fz o | none => .no) = .fz o ↔ _
      cases H b <;> simp
    have hN : ∀ b, H b = none → T b = .no := fun b e => by
      show (match H b with | some o => Tag.fz o | none => .no) = .no
      rw [e]
    have hC : ∀ b l, T b ≠ .cell l := fun b l => by
      show (match H b with | some o => Tag.fz o | none => .no) ≠ .cell l
      cases H b <;> simp
    refine ⟨{ H0 := H, T0 := T, T := T, M := [] }, [], [.scr ns], _, S, ⟨fun b o e => (hF b o).mp e, rfl, fun b l e => absurd e (hC b l), fun l b c e => by simp at e, fun b e => hN b e, fun b o e _ => e, fun b o _ e => e, fun b => ?_, fun b o e => e, fun b l e => e⟩, ?_, rfl, rfl, e, fun w' v H' l h' r' => ?_⟩
    · cases e : H b with
      | none => exact .inl (hN b e)
      | some o => exact .inr (.inl ⟨o, (hF b o).mpr e⟩)
    · exact .cons ⟨a, rfl, SqL.sub (fun b o e => Wd.F_iff.mpr ((hF b o).mpr e)) sq⟩ .nil
    · cases (show Rp w'.F (.bool true) v from r')
      exact q H'
end MP

namespace MP
open PySem PySem.Spec PyProof.Rows L2

/-! ## reckoning with the readings -/
section
variable {st st1 : Stt} {f : EvU} {g : EvU} {fo : EvO} {i j : Nat} {x y : U} {r : List (Option O)} {S : List Cell} {h : List O}
@[simp] theorem q_seq {f g : EvS} : seq f g st = (f st).bind fun p => match p.1 with
  | .nx => g p.2
  | _ => some p := rfl
@[simp] theorem q_nil : sNil st = some (.nx, st) := rfl
@[simp] theorem q_pass : sPass st = some (.nx, st) := rfl
@[simp] theorem q_brk : sBrk st = some (.bk, st) := rfl
@[simp] theorem q_cnt : sCnt st = some (.ct, st) := rfl
@[simp] theorem q_do : sDo fo st = (fo st).map fun p => (.nx, p.2) := rfl
@[simp] theorem q_retN : sRetN st = some (.rt (.u (.v .none)), st) := rfl
@[simp] theorem q_ret : sRet fo st = (fo st).map fun p => (.rt p.1, p.2) := rfl
@[simp] theorem q_own : own i ⟨r, S, h⟩ = match r[i]? with
  | some (some o) => some (o, ⟨r.set i none, S, h⟩)
  | _ => none := rfl
@[simp] theorem q_if {t : EvT} {f g : EvS} : sIf t f g st = (t st).bind fun p => if p.1 then f p.2 else g p.2 := rfl
@[simp] theorem q_set : sSet i fo st = (fo st).bind fun p => if i < p.2.r.length then some (.nx, { p.2 with r := p.2.r.set i (some p.1) }) else none := rfl
@[simp] theorem q_asg {g : EvG} : sAsg f g st = (f st).bind fun p => (g p.1 p.2).map fun st' => (.nx, st') := rfl
@[simp] theorem q_hNil : hNil st = some st := rfl
@[simp] theorem q_hCons {g : EvH} : hCons fo g st = (fo st).bind fun p => g { p.2 with h := p.2.h ++ [p.1] } := rfl
@[simp] theorem q_par {g : EvH} : sPar i j g st = if st.h.isEmpty then (g st).bind fun st' => match st'.h with
  | [a, b] => if i < st'.r.length ∧ j < st'.r.length then some (.nx, { st' with r := (st'.r.set i (some a)).set j (some b), h := [] }) else none
  | _ => none else none := rfl
@[simp] theorem q_par3 {l : Nat} {g : EvH} : sPar3 i j l g st = if st.h.isEmpty then (g st).bind fun st' => match st'.h with
  | [a, b, c] => if i < st'.r.length ∧ j < st'.r.length ∧ l < st'.r.length then some (.nx, { st' with r := ((st'.r.set i (some a)).set j (some b)).set l (some c), h := [] }) else none
  | _ => none else none := rfl
@[simp] theorem q_gN : gN i x ⟨r, S, h⟩ = if i < r.length then some ⟨r.set i (some (.u x)), S, h⟩ else none := rfl
@[simp] theorem q_gNo : gNo [] st = some st := rfl
@[simp] theorem q_gCo {g : EvG} {gs : EvGs} {xs : List U} : gCo g gs (x :: xs) st = (g x st).bind (gs xs) := rfl
@[simp] theorem q_gT {n : Nat} {gs : EvGs} {ds : List PyData} : gT n gs (.v (.tuple ds)) st = if ds.length = n then gs (ds.map .v) st else none := rfl
@[simp] theorem q_gL {n : Nat} {gs : EvGs} {ds : List PyData} : gL n gs (.v (.list ds)) st = if ds.length = n then gs (ds.map .v) st else none := rfl
@[simp] theorem q_gS {f : EvR} : gS f g x st = (f st).bind fun p => (g p.2).bind fun q => store q.2 p.1 q.1 x := rfl
@[simp] theorem q_onV {g : EvG} : onV g (.v x) st = g x st := rfl
@[simp] theorem q_onTv {n : Nat} {gs : EvGs} : onT n gs (.v x) st = gT n gs x st := rfl
@[simp] theorem q_onTp {n : Nat} {gs : EvGs} : onT n gs (.p x y) st = if n = 2 then gs [x, y] st else none := rfl
/-! values -/
@[simp] theorem q_kst {d : PyData} : kst d st = some (.v d, st) := rfl
@[simp] theorem q_nm : nm i ⟨r, S, h⟩ = match r[i]? with
  | some (some (.u x)) => some (x, ⟨r, S, h⟩)
  | some (some (.ol xs)) => some (.v (.list xs), ⟨r.set i (some (.u (.v (.list xs)))), S, h⟩)
  | some (some (.od kvs)) => some (.ref S.length, ⟨r.set i (some (.u (.ref S.length))), S ++ [.cd kvs], h⟩)
  | _ => none := rfl
@[simp] theorem q_nmP : nmP i ⟨r, S, h⟩ = match r[i]? with
  | some (some (.u x)) => some (x, ⟨r, S, h⟩)
  | some (some (.ol xs)) => some (.ref S.length, ⟨r.set i (some (.u (.ref S.length))), S ++ [.cl xs], h⟩)
  | some (some (.od kvs)) => some (.ref S.length, ⟨r.set i (some (.u (.ref S.length))), S ++ [.cd kvs], h⟩)
  | _ => none := rfl
@[simp] theorem q_up : up f st = (f st).map fun p => (.u p.1, p.2) := rfl
@[simp] theorem q_fz : fz fo st = (fo st).bind fun p => match p.1 with
  | .u x => some (x, p.2)
  | .ol xs => some (.v (.list xs), p.2)
  | .od kvs => some (.ref p.2.S.length, { p.2 with S := p.2.S ++ [.cd kvs] }) := by
  unfold fz
  cases fo st with
  | none => rfl
  | some p => obtain ⟨o, s⟩ := p; cases o <;> rfl
@[simp] theorem q_bin {g : U → U → Option U} {fa fb : EvU} : bin g fa fb st = (fa st).bind fun p => (fb p.2).bind fun q => (g p.1 q.1).map fun z => (z, q.2) := rfl
@[simp] theorem q_un {g : U → Option U} : un g f st = (f st).bind fun p => (g p.1).map fun z => (z, p.2) := rfl
@[simp] theorem q_andU : andU f g st = (f st).bind fun p => (boolOf p.1).bind fun b => if b then g p.2 else some (.v (.bool false), p.2) := rfl
@[simp] theorem q_orU : orU f g st = (f st).bind fun p => (boolOf p.1).bind fun b => if b then some (.v (.bool true), p.2) else g p.2 := rfl
@[simp] theorem q_notU : notU f st = (f st).bind fun p => (boolOf p.1).map fun b => (.v (.bool (!b)), p.2) := rfl
@[simp] theorem q_ifU {t : EvT} : ifU t f g st = (t st).bind fun p => if p.1 then f p.2 else g p.2 := rfl
@[simp] theorem q_ifO {t : EvT} {f g : EvO} : ifO t f g st = (t st).bind fun p => if p.1 then f p.2 else g p.2 := rfl
@[simp] theorem q_aNil : aNil st = some ([], st) := rfl
@[simp] theorem q_aCons {g : EvL} : aCons f g st = (f st).bind fun p => (g p.2).map fun q => (p.1 :: q.1, q.2) := rfl
@[simp] theorem q_datas0 : datas [] = some [] := rfl
@[simp] theorem q_datas1 {d : PyData} {xs : List U} : datas (.v d :: xs) = (datas xs).map (d :: ·) := rfl
@[simp] theorem q_tupF {g : EvL} : tupF g st = (g st).bind fun p => (datas p.1).bind fun ds => if lineOk ds.length then some (.v (.tuple ds), p.2) else none := rfl
@[simp] theorem q_lstF {g : EvL} : lstF g st = (g st).bind fun p => (datas p.1).bind fun ds => if lineOk ds.length then some (.ol ds, p.2) else none := rfl
@[simp] theorem q_cal {n : Nat} {F : FnS} {g : EvL} : cal n F g st = (g st).bind fun p => if p.1.length = n then (F p.1 p.2.S).map fun q => (q.1, { p.2 with S := q.2 }) else none := rfl
@[simp] theorem q_ord {o : {α : Type} → List α → List α → List α} {g gk : EvL} : ord o g gk st = (g st).bind fun p => (gk p.2).map fun q => (o p.1 q.1, q.2) := rfl
/-! tests -/
@[simp] theorem q_tst : tst f st = (f st).bind fun p => (boolOf p.1).map fun b => (b, p.2) := rfl
@[simp] theorem q_tru : tru f st = (f st).bind fun p => (truU p.1).map fun b => (b, p.2) := rfl
@[simp] theorem q_andT {f g : EvT} : andT f g st = (f st).bind fun p => if p.1 then g p.2 else some (false, p.2) := rfl
@[simp] theorem q_orT {f g : EvT} : orT f g st = (f st).bind fun p => if p.1 then some (true, p.2) else g p.2 := rfl
@[simp] theorem q_notT {f : EvT} : notT f st = (f st).map fun p => (!p.1, p.2) := rfl
@[simp] theorem q_yes : yes st = some (true, st) := rfl
@[simp] theorem q_boolOf {b : Bool} : boolOf (.v (.bool b)) = some b := rfl
@[simp] theorem q_truB {b : Bool} : truU (.v (.bool b)) = some b := rfl
@[simp] theorem q_truI {n : Int} : truU (.v (.int n)) = some (n != 0) := rfl
@[simp] theorem q_truN : truU (.v .none) = some false := rfl
@[simp] theorem q_truL {xs : List PyData} : truU (.v (.list xs)) = some !xs.isEmpty := rfl
@[simp] theorem q_truT {xs : List PyData} : truU (.v (.tuple xs)) = some !xs.isEmpty := rfl
/-! numbers -/
section
variable {a b : Int} {xs ys : List PyData}
@[simp] theorem q_addI : gAdd (.v (.int a)) (.v (.int b)) = some (.v (.int (a + b))) := rfl
@[simp] theorem q_addT : gAdd (.v (.tuple xs)) (.v (.tuple ys)) = if lineOk (xs.length + ys.length) then some (.v (.tuple (xs ++ ys))) else none := rfl
@[simp] theorem q_addL : gAdd (.v (.list xs)) (.v (.list ys)) = if lineOk (xs.length + ys.length) then some (.v (.list (xs ++ ys))) else none := rfl
@[simp] theorem q_sub : iSub (.v (.int a)) (.v (.int b)) = some (.v (.int (a - b))) := rfl
theorem q_mul (hc : a.natAbs < 18446744073709551616 ∨ b.natAbs < 18446744073709551616) : gMul (.v (.int a)) (.v (.int b)) = some (.v (.int (a * b))) := by
  show (if cMul a b = true then _ else _) = _
  rw [if_pos (by simp only [cMul, Bool.or_eq_true, decide_eq_true_eq]; exact hc)]
@[simp] theorem q_mul2 : gMul (.v (.int 2)) (.v (.int b)) = some (.v (.int (2 * b))) := q_mul (.inl (by decide))
theorem q_div (h0 : b ≠ 0) (h1 : b.natAbs < 1073741824) : iDiv (.v (.int a)) (.v (.int b)) = some (.v (.int (a.fdiv b))) := by
  show (if cDiv a b = true then _ else _) = _
  rw [if_pos (by simp [cDiv, h0, h1])]
theorem q_mod (h0 : b ≠ 0) : iMod (.v (.int a)) (.v (.int b)) = some (.v (.int (a.fmod b))) := by
  show (if cMod a b = true then _ else _) = _
  rw [if_pos (by simp [cMod, h0])]
theorem q_pow (h0 : 0 ≤ b) (h1 : b.natAbs ≤ 1000000) (h2 : a.natAbs < 18446744073709551616) : iPow (.v (.int a)) (.v (.int b)) = some (.v (.int (a ^ b.toNat))) := by
  show (if cPow a b = true then _ else _) = _
  rw [if_pos (by simp only [cPow, Bool.and_eq_true, decide_eq_true_eq]; exact ⟨h0, h1, h2⟩)]
theorem q_shl (h0 : 0 ≤ b) (h1 : b.natAbs ≤ 1000000) (h2 : a.natAbs < 18446744073709551616) : iShl (.v (.int a)) (.v (.int b)) = some (.v (.int (a * 2 ^ b.toNat))) := by
  show (if cPow a b = true then _ else _) = _
  rw [if_pos (by simp only [cPow, Bool.and_eq_true, decide_eq_true_eq]; exact ⟨h0, h1, h2⟩)]
theorem q_shr (h0 : 0 ≤ b) : iShr (.v (.int a)) (.v (.int b)) = some (.v (.int (a / 2 ^ b.toNat))) := by
  show (if cShr a b = true then _ else _) = _
  rw [if_pos (by simp only [cShr, decide_eq_true_eq]; exact h0)]
@[simp] theorem q_and : iAnd (.v (.int a)) (.v (.int b)) = some (.v (.int (Builtin.bitAnd a b))) := rfl
@[simp] theorem q_or : iOr (.v (.int a)) (.v (.int b)) = some (.v (.int (Builtin.bitOr a b))) := rfl
@[simp] theorem q_xor : iXor (.v (.int a)) (.v (.int b)) = some (.v (.int (Builtin.bitXor a b))) := rfl
@[simp] theorem q_lt : iLt (.v (.int a)) (.v (.int b)) = some (.v (.bool (decide (a < b)))) := rfl
@[simp] theorem q_le : iLe (.v (.int a)) (.v (.int b)) = some (.v (.bool (decide (a ≤ b)))) := rfl
@[simp] theorem q_gt : iGt (.v (.int a)) (.v (.int b)) = some (.v (.bool (decide (b < a)))) := rfl
@[simp] theorem q_ge : iGe (.v (.int a)) (.v (.int b)) = some (.v (.bool (decide (b ≤ a)))) := rfl
@[simp] theorem q_neg : gNeg (.v (.int a)) = some (.v (.int (-a))) := rfl
@[simp] theorem q_is : gIs x (.v .none) = some (.v (.bool (isNone x))) := rfl
@[simp] theorem q_isn : gIsNot x (.v .none) = some (.v (.bool (!isNone x))) := rfl
@[simp] theorem q_isN0 : isNone (.v .none) = true := rfl
@[simp] theorem q_isNi : isNone (.v (.int a)) = false := rfl
@[simp] theorem q_isNt : isNone (.v (.tuple xs)) = false := rfl
@[simp] theorem q_isNb {b : Bool} : isNone (.v (.bool b)) = false := rfl
@[simp] theorem q_intI : kInt [.v (.int a)] = some (.u (.v (.int a))) := rfl
@[simp] theorem q_intB {b : Bool} : kInt [.v (.bool b)] = some (.u (.v (.int (if b then 1 else 0)))) := rfl
@[simp] theorem q_abs : kAbs [.v (.int a)] = some (.u (.v (.int (if a < 0 then -a else a)))) := rfl
end
/-! what is looked at -/
@[simp] theorem q_rN : rN i ⟨r, S, h⟩ = match r[i]? with
  | some (some _) => some (.sl i, ⟨r, S, h⟩)
  | _ => none := by
  unfold rN
  cases r[i]? with
  | none => rfl
  | some o => cases o <;> rfl
@[simp] theorem q_rU : rU f st = (f st).map fun p => (.u p.1, p.2) := rfl
@[simp] theorem q_lookS : look ⟨r, S, h⟩ (.sl i) = match r[i]? with
  | some (some o) => sqO S o
  | _ => none := rfl
@[simp] theorem q_lookU : look ⟨r, S, h⟩ (.u x) = sqO S (.u x) := rfl
@[simp] theorem q_sqOl {xs : List PyData} : sqO S (.ol xs) = some (.l xs) := rfl
@[simp] theorem q_sqOd {kvs : List (PyData × U)} : sqO S (.od kvs) = some (.d kvs) := rfl
@[simp] theorem q_sqL {xs : List PyData} : sqO S (.u (.v (.list xs))) = some (.l xs) := rfl
@[simp] theorem q_sqT {xs : List PyData} : sqO S (.u (.v (.tuple xs))) = some (.t xs) := rfl
@[simp] theorem q_sqS {z : Str} : sqO S (.u (.v (.str z))) = some (.s z) := rfl
@[simp] theorem q_sqR {l : Nat} : sqO S (.u (.ref l)) = (S[l]?).map cellSq := rfl
@[simp] theorem q_sqC {ns : List Int} : sqO S (.u (.scr ns)) = some (.l (ns.map .int)) := rfl
@[simp] theorem q_sqN : sqO S (.u (.v .none)) = none := rfl
@[simp] theorem q_sqI {a : Int} : sqO S (.u (.v (.int a))) = none := rfl
@[simp] theorem q_sqB {a : Bool} : sqO S (.u (.v (.bool a))) = none := rfl
@[simp] theorem q_cl {xs : List PyData} : cellSq (.cl xs) = .l xs := rfl
@[simp] theorem q_cd {kvs : List (PyData × U)} : cellSq (.cd kvs) = .d kvs := rfl
@[simp] theorem q_idx {f : EvR} : idx f g st = (f st).bind fun p => (g p.2).bind fun q => (gIx q.2 p.1 q.1).map fun z => (z, q.2) := rfl
@[simp] theorem q_gIx {hd : Hn} : gIx st hd y = match look st hd, y with
  | some (.l xs), .v (.int i) => (atI xs i).map .v
  | some (.t xs), .v (.int i) => (atI xs i).map .v
  | some (.s z), .v (.int i) => if lineOk z.length then (atI z.cps.toList i).map fun c => .v (.str ⟨#[c]⟩) else none
  | some (.d kvs), .v k => if kOk kvs k then dget kvs k else none
  | _, _ => none := rfl
@[simp] theorem q_isIn {neg : Bool} {g : EvR} : isIn neg f g st = (f st).bind fun p => (g p.2).bind fun q => (gIn neg q.2 p.1 q.1).map fun z => (z, q.2) := rfl
@[simp] theorem q_pNo : pNo st = some (none, st) := rfl
@[simp] theorem q_pAt : pAt f st = (f st).bind fun p => match p.1 with
  | .v (.int i) => some (some i, p.2)
  | _ => none := rfl
@[simp] theorem q_slc {f : EvR} {lo hi : EvP} : slc f lo hi st = (f st).bind fun p => (lo p.2).bind fun l => (hi l.2).bind fun h => (gSl h.2 p.1 l.1 h.1).map fun z => (z, h.2) := rfl
@[simp] theorem q_bl {k : List U → Option O} {g : EvL} : bl k g st = (g st).bind fun p => (k p.1).map fun o => (o, p.2) := rfl
@[simp] theorem q_b1 {k : Sq → Option O} {f : EvR} : b1 k f st = (f st).bind fun p => (look p.2 p.1).bind fun c => (k c).map fun o => (o, p.2) := rfl
@[simp] theorem q_lenL {xs : List PyData} : kLen (.l xs) = some (.u (.v (.int xs.length))) := rfl
@[simp] theorem q_lenT {xs : List PyData} : kLen (.t xs) = some (.u (.v (.int xs.length))) := rfl
@[simp] theorem q_mth {k : Sq → List U → Option U} {f : EvR} {g : EvL} : mth k f g st = (f st).bind fun p => (look p.2 p.1).bind fun c0 => (g p.2).bind fun q => (look q.2 p.1).bind fun c =>
  if c.ty = c0.ty then (k c q.1).map fun z => (z, q.2) else none := rfl
@[simp] theorem q_tyL {xs : List PyData} : (Sq.l xs).ty = "list" := rfl
@[simp] theorem q_tyT {xs : List PyData} : (Sq.t xs).ty = "tuple" := rfl
@[simp] theorem q_tyD {xs : List (PyData × U)} : (Sq.d xs).ty = "dict" := rfl
@[simp] theorem q_lmt {k : List PyData → List U → Option (U × List PyData)} {f : EvR} {g : EvL} : lmt k f g st = (f st).bind fun p => (getL p.2 p.1).bind fun _ => (g p.2).bind fun q => (getL q.2 p.1).bind fun xs => (k xs q.1).map fun z => (z.1, putL q.2 z.2 p.1) := rfl
@[simp] theorem q_lmt0 {k : List PyData → List U → Option (U × List PyData)} {f : EvR} : lmt0 k f st = (f st).bind fun p => (getL p.2 p.1).bind fun xs => (k xs []).map fun z => (z.1, putL p.2 z.2 p.1) := rfl
@[simp] theorem q_getLs : getL ⟨r, S, h⟩ (.sl i) = match r[i]? with
  | some (some (.ol xs)) => some xs
  | some (some (.u (.ref l))) => match S[l]? with
    | some (.cl xs) => some xs
    | _ => none
  | _ => none := rfl
@[simp] theorem q_getLr {l : Nat} : getL ⟨r, S, h⟩ (.u (.ref l)) = match S[l]? with
  | some (.cl xs) => some xs
  | _ => none := rfl
@[simp] theorem q_putLs {xs : List PyData} : putL ⟨r, S, h⟩ xs (.sl i) = match r[i]? with
  | some (some (.ol _)) => ⟨r.set i (some (.ol xs)), S, h⟩
  | some (some (.u (.ref l))) => ⟨r, S.set l (.cl xs), h⟩
  | _ => ⟨r, S, h⟩ := rfl
@[simp] theorem q_putLr {l : Nat} {xs : List PyData} : putL ⟨r, S, h⟩ xs (.u (.ref l)) = ⟨r, S.set l (.cl xs), h⟩ := rfl
@[simp] theorem q_app {xs : List PyData} {d : PyData} : kAppend xs [.v d] = if lineOk (xs.length + 1) then some (.v .none, xs ++ [d]) else none := rfl
@[simp] theorem q_ext {xs ys : List PyData} : kExtend xs [.v (.list ys)] = if lineOk (xs.length + ys.length) then some (.v .none, xs ++ ys) else none := rfl
@[simp] theorem q_getDs : getD ⟨r, S, h⟩ (.sl i) = match r[i]? with
  | some (some (.od kvs)) => some kvs
  | some (some (.u (.ref l))) => match S[l]? with
    | some (.cd kvs) => some kvs
    | _ => none
  | _ => none := rfl
@[simp] theorem q_getDr {l : Nat} : getD ⟨r, S, h⟩ (.u (.ref l)) = match S[l]? with
  | some (.cd kvs) => some kvs
  | _ => none := rfl
@[simp] theorem q_putDs {kvs : List (PyData × U)} : putD ⟨r, S, h⟩ kvs (.sl i) = match r[i]? with
  | some (some (.od _)) => ⟨r.set i (some (.od kvs)), S, h⟩
  | some (some (.u (.ref l))) => ⟨r, S.set l (.cd kvs), h⟩
  | _ => ⟨r, S, h⟩ := rfl
@[simp] theorem q_putDr {l : Nat} {kvs : List (PyData × U)} : putD ⟨r, S, h⟩ kvs (.u (.ref l)) = ⟨r, S.set l (.cd kvs), h⟩ := rfl
@[simp] theorem q_store {hd : Hn} : store st hd y x = match getL st hd, y, x with
  | some xs, .v (.int i), .v d => (ixN xs.length i).map fun j => putL st (xs.set j d) hd
  | _, .v k, x => match getD st hd with
    | some kvs => if kOk kvs k && decide (kvs.length < 16777216) then some (putD st (dput kvs k x) hd) else none
    | none => none
  | _, _, _ => none := rfl
/-! comparisons -/
@[simp] theorem q_eqR {neg : Bool} {f g : EvR} : eqR neg f g st = (f st).bind fun p => (g p.2).bind fun q => (datO q.2 p.1).bind fun d => (datO q.2 q.1).bind fun d2 =>
  if SeqAt.shaped d && SeqAt.shaped d2 then some (.v (.bool (PyData.eqv d d2 != neg)), q.2) else none := rfl
@[simp] theorem q_datV {d : PyData} : datO st (.u (.v d)) = some d := rfl
@[simp] theorem q_datR {l : Nat} : datO ⟨r, S, h⟩ (.u (.ref l)) = ((S[l]?).map cellSq).bind sqD := rfl
@[simp] theorem q_datS : datO ⟨r, S, h⟩ (.sl i) = match r[i]? with
  | some (some (.u (.v d))) => some d
  | some (some o) => (sqO S o).bind sqD
  | _ => none := by
  unfold datO plainO
  show (match (match r[i]? with | some (some (O.u (U.v d))) => some d | _ => none) with | some d => some d | none => (look ⟨r, S, h⟩ (.sl i)).bind sqD) = _
  cases e : r[i]? with
  | none => simp [look, e]
  | some o =>
    cases o with
    | none => simp [look, e]
    | some o =>
      cases o with
      | u x => cases x <;> simp [look, e]
      | ol xs => simp [look, e]
      | od xs => simp [look, e]
@[simp] theorem q_sqDl {xs : List PyData} : sqD (.l xs) = some (.list xs) := rfl
@[simp] theorem q_sqDt {xs : List PyData} : sqD (.t xs) = some (.tuple xs) := rfl
/-! walks -/
@[simp] theorem q_vals : vals f st = (f st).bind fun p => (itsU p.1).map fun l => (l, p.2) := rfl
@[simp] theorem q_itsL {ds : List PyData} : itsU (.v (.list ds)) = some (ds.map fun d => .v (.v d)) := rfl
@[simp] theorem q_itsT {ds : List PyData} : itsU (.v (.tuple ds)) = some (ds.map fun d => .v (.v d)) := rfl
@[simp] theorem q_itsS {ns : List Int} : itsU (.scr ns) = some (ns.map fun n => .v (.v (.int n))) := rfl
@[simp] theorem q_dsL {ds : List PyData} : dsU (.v (.list ds)) = some ds := rfl
@[simp] theorem q_dsT {ds : List PyData} : dsU (.v (.tuple ds)) = some ds := rfl
@[simp] theorem q_enum : enum f st = (f st).bind fun p => (dsU p.1).map fun ds => (enI 0 ds, p.2) := rfl
@[simp] theorem q_zip {g : EvU} : zipI f g st = (f st).bind fun p => (g p.2).bind fun q => (dsU p.1).bind fun xs => (dsU q.1).map fun ys => (zpI xs ys, q.2) := rfl
theorem q_rg1 : rg1 f st = (f st).bind fun p => match p.1 with
  | .v (.int j) => if rgSm j then some (rgI 0 j, p.2) else none
  | _ => none := rfl
/-- range(n) of a natural number -/
def rgN (n : Nat) : List Itm := (List.range n).map fun i => .v (.v (.int (i : Nat)))
theorem rgI_nat (n : Nat) : rgI 0 (n : Nat) = rgN n := by
  unfold rgI rgN
  simp
theorem rgSm_nat {n : Nat} (h : n ≤ 1000000000) : rgSm (n : Int) = true := by
  unfold rgSm
  rw [decide_eq_true (by omega)]
theorem q_rg1n {n : Nat} (hf : f st = some (.v (.int (n : Nat)), st1)) (hn : n ≤ 1000000000) : rg1 f st = some (rgN n, st1) := by
  rw [q_rg1, hf, Option.bind_some]
  simp only [rgSm_nat hn, if_true, rgI_nat]
@[simp] theorem q_for {f : EvI} {g : Itm → Stt → Option Stt} {b : EvS} : sFor f g b st = (f st).bind fun p => fLoop g b p.1 p.2 := rfl
@[simp] theorem q_floop0 {g : Itm → Stt → Option Stt} {b : EvS} : fLoop g b [] st = some (.nx, st) := rfl
theorem q_floop1 {g : Itm → Stt → Option Stt} {b : EvS} {it : Itm} {its : List Itm} : fLoop g b (it :: its) st = (g it st).bind fun st1 => (b st1).bind fun q => match q.1 with
  | .nx => fLoop g b its q.2
  | .ct => fLoop g b its q.2
  | .bk => some (.nx, q.2)
  | .rt o => some (.rt o, q.2) := rfl
theorem q_run {n : Nat} {b : EvS} {xs : List U} : runF n b xs S = match b ⟨xs.map (fun x => some (.u x)) ++ List.replicate (n - xs.length) none, S, []⟩ with
  | some (.nx, st) => some (.u (.v .none), st.S)
  | some (.rt o, st) => some (o, st.S)
  | _ => none := rfl
theorem lineOk_of {n : Nat} (h : n ≤ 16777216) : lineOk n = true := by
  unfold lineOk
  exact decide_eq_true h
/-- a loop that folds -/
theorem fLoop_fold {A : Type} (mk : A → Stt) (step : A → Itm → A) {g : Itm → Stt → Option Stt} {b : EvS} : ∀ (its : List Itm) (a : A), (∀ (pre : List Itm) (it : Itm) (post : List Itm), its = pre ++ it :: post → ∃ st1, g it (mk (pre.foldl step a)) = some st1 ∧ (b st1 = some (.nx, mk (step (pre.foldl step a) it)) ∨ b st1 = some (.ct, mk (step (pre.foldl step a) it)))) →
    fLoop g b its (mk a) = some (.nx, mk (its.foldl step a))
  | [], a, _ => rfl
  | it :: its, a, hh => by
    obtain ⟨st1, e1, e2⟩ := hh [] it its rfl
    have go : fLoop g b its (mk (step a it)) = some (.nx, mk (its.foldl step (step a it))) := fLoop_fold mk step its (step a it) fun pre it' post e => hh (it :: pre) it' post (by rw [e]; rfl)
    have e1 : g it (mk a) = some st1 := e1
    rw [q_floop1, e1, Option.bind_some]
    rcases e2 with e2 | e2
    · rw [e2]
      exact go
    · rw [e2]
      exact go
/-- a comprehension that changes nothing -/
theorem lcLoop_out {out : Itm → List PyData} {k : Itm → Stt → Option Stt} {mk : List PyData → Stt} : ∀ (its : List Itm) (acc : List PyData), (∀ it ∈ its, ∀ acc : List PyData, acc.length ≤ 16777215 → k it (mk acc) = some (mk (acc ++ out it))) → acc.length + (its.map fun it => (out it).length).sum ≤ 16777215 →
    lcLoop k its (mk acc) = some (mk (acc ++ its.flatMap out))
  | [], acc, _, _ => by simp [lcLoop]
  | it :: its, acc, hh, hl => by
    simp only [List.map_cons, List.sum_cons] at hl
    unfold lcLoop
    rw [hh it List.mem_cons_self acc (by omega), Option.bind_some, lcLoop_out its (acc ++ out it) (fun it' h' => hh it' (List.mem_cons_of_mem _ h')) (by rw [List.length_append]; omega)]
    simp
theorem q_lc {f : EvI} {g : Itm → Stt → Option Stt} {t : EvT} {e : EvU} {vs : List Nat} {its : List Itm} {r0 rw : List (Option O)} {out : Itm → List PyData} (hf : f st = some (its, ⟨r0, S, h⟩)) (hw : wipeR r0 vs = rw)
    (turn : ∀ it ∈ its, ∀ acc : List PyData, acc.length ≤ 16777215 → lcTurn g t e vs it ⟨rw, S, h ++ [.ol acc]⟩ = some ⟨rw, S, h ++ [.ol (acc ++ out it)]⟩) (hl : (its.map fun it => (out it).length).sum ≤ 16777215) :
    lc f g t e vs st = some (.ol (its.flatMap out), ⟨backR r0 rw vs, S, h⟩) := by
  unfold lc
  rw [hf, Option.bind_some]
  have := lcLoop_out (mk := fun acc => ⟨rw, S, h ++ [.ol acc]⟩) its [] turn (by rw [List.length_nil, Nat.zero_add]; exact hl)
  have e1 : wipeS vs { (⟨r0, S, h⟩ : Stt) with h := h ++ [.ol []] } = ⟨rw, S, h ++ [.ol []]⟩ := by
    unfold wipeS
    rw [← hw]
  show (lcLoop (lcTurn g t e vs) its (wipeS vs { (⟨r0, S, h⟩ : Stt) with h := h ++ [.ol []] })).bind _ = _
  rw [e1, this, Option.bind_some]
  simp only [List.nil_append, List.getLast?_concat, List.dropLast_concat, Option.map_some]
@[simp] theorem q_pushH {d : PyData} {acc : List PyData} (hl : acc.length ≤ 16777215) : pushH (.v d) ⟨r, S, h ++ [.ol acc]⟩ = some ⟨r, S, h ++ [.ol (acc ++ [d])]⟩ := by
  unfold pushH
  simp [lineOk_of (show acc.length + 1 ≤ 16777216 by omega)]
end
end MP

namespace MP
open PySem PySem.Spec PyProof.Rows L2

section
variable {α A : Type} {st : Stt} {i j : Nat} {b : EvS} {r r0 rw : List (Option O)} {S : List Cell} {h : List O}
theorem run_ret {n : Nat} {xs : List U} {b : EvS} {o : O} {S' : List Cell} (r0 : List (Option O)) (hr : xs.map (fun x => some (.u x)) ++ List.replicate (n - xs.length) none = r0) (hb : ∃ r' h', b ⟨r0, S, []⟩ = some (.rt o, ⟨r', S', h'⟩)) : runF n b xs S = some (o, S') := by
  obtain ⟨r', h', e⟩ := hb
  rw [q_run, hr, e]
abbrev slU (d : PyData) : Option O := some (.u (.v d))
/-- for x in a list -/
theorem loopV (enc : α → PyData) (mk : A → Option O → Stt) (step : A → α → A) (sto : ∀ a o x, gN i (.v x) (mk a o) = some (mk a (slU x))) : ∀ (xs : List α) (a : A) (o : Option O),
    (∀ pre x post, xs = pre ++ x :: post → b (mk (pre.foldl step a) (slU (enc x))) = some (.nx, mk (step (pre.foldl step a) x) (slU (enc x)))) →
    ∃ o', fLoop (onV (gN i)) b (xs.map fun x => .v (.v (enc x))) (mk a o) = some (.nx, mk (xs.foldl step a) o')
  | [], a, o, _ => ⟨o, rfl⟩
  | x :: xs, a, o, turn => by
    have t := turn [] x xs rfl
    obtain ⟨o', e⟩ := loopV enc mk step sto xs (step a x) (slU (enc x)) fun pre y post e => turn (x :: pre) y post (by rw [e]; rfl)
    refine ⟨o', ?_⟩
    rw [List.map_cons, q_floop1, q_onV, sto, Option.bind_some]
    rw [show b (mk a (slU (enc x))) = some (.nx, mk (step a x) (slU (enc x))) from t]
    exact e
/-- for x, y in a list of pairs -/
theorem loopP (e1 e2 : α → PyData) (mk : A → Option O → Option O → Stt) (step : A → α → A) (sto : ∀ a o o2 x y, (gN i (.v x) (mk a o o2)).bind (gN j (.v y)) = some (mk a (slU x) (slU y))) : ∀ (xs : List α) (a : A) (o o2 : Option O),
    (∀ pre x post, xs = pre ++ x :: post → b (mk (pre.foldl step a) (slU (e1 x)) (slU (e2 x))) = some (.nx, mk (step (pre.foldl step a) x) (slU (e1 x)) (slU (e2 x)))) →
    ∃ o' o2', fLoop (onT 2 (gCo (gN i) (gCo (gN j) gNo))) b (xs.map fun x => .p (.v (e1 x)) (.v (e2 x))) (mk a o o2) = some (.nx, mk (xs.foldl step a) o' o2')
  | [], a, o, o2, _ => ⟨o, o2, rfl⟩
  | x :: xs, a, o, o2, turn => by
    have t := turn [] x xs rfl
    obtain ⟨o', o2', e⟩ := loopP e1 e2 mk step sto xs (step a x) (slU (e1 x)) (slU (e2 x)) fun pre y post e => turn (x :: pre) y post (by rw [e]; rfl)
    refine ⟨o', o2', ?_⟩
    have g : onT 2 (gCo (gN i) (gCo (gN j) gNo)) (.p (.v (e1 x)) (.v (e2 x))) (mk a o o2) = some (mk a (slU (e1 x)) (slU (e2 x))) := by
      rw [q_onTp, if_pos rfl, q_gCo]
      have := sto a o o2 (e1 x) (e2 x)
      cases e : gN i (.v (e1 x)) (mk a o o2) with
      | none => rw [e] at this; cases this
      | some s1 =>
        rw [e, Option.bind_some] at this
        rw [Option.bind_some, q_gCo, this]
        rfl
    rw [List.map_cons, q_floop1, g, Option.bind_some]
    rw [show b (mk a (slU (e1 x)) (slU (e2 x))) = some (.nx, mk (step a x) (slU (e1 x)) (slU (e2 x))) from t]
    exact e
theorem sum_le {out : Itm → List PyData} : ∀ its : List Itm, (∀ it ∈ its, (out it).length ≤ 1) → (its.map fun it => (out it).length).sum ≤ its.length
  | [], _ => Nat.le_refl _
  | it :: its, h1 => by
    have := sum_le its fun x hx => h1 x (List.mem_cons_of_mem _ hx)
    have := h1 it List.mem_cons_self
    simp only [List.map_cons, List.sum_cons, List.length_cons]
    omega
theorem flat_filter (p : α → Bool) (out : α → PyData) : ∀ xs : List α, xs.flatMap (fun x => if p x then [out x] else []) = (xs.filter p).map out
  | [] => rfl
  | x :: xs => by
    rw [List.flatMap_cons, flat_filter p out xs, List.filter_cons]
    cases p x <;> rfl
theorem lcLoop_typed (it : α → Itm) (out : α → List PyData) {k : Itm → Stt → Option Stt} {mk : List PyData → Stt} : ∀ (xs : List α) (acc : List PyData), (∀ x ∈ xs, (out x).length ≤ 1) → (∀ x ∈ xs, ∀ acc : List PyData, acc.length ≤ 16777215 → k (it x) (mk acc) = some (mk (acc ++ out x))) → acc.length + xs.length ≤ 16777215 →
    lcLoop k (xs.map it) (mk acc) = some (mk (acc ++ xs.flatMap out))
  | [], acc, _, _, _ => by simp [lcLoop]
  | x :: xs, acc, h1, hh, hl => by
    have l1 := h1 x List.mem_cons_self
    rw [List.length_cons] at hl
    unfold lcLoop
    rw [List.map_cons]
    show (k (it x) (mk acc)).bind _ = _
    rw [hh x List.mem_cons_self acc (by omega), Option.bind_some, lcLoop_typed it out xs (acc ++ out x) (fun x h => h1 x (List.mem_cons_of_mem _ h)) (fun x h' => hh x (List.mem_cons_of_mem _ h')) (by rw [List.length_append]; omega)]
    simp
theorem lc_typed (it : α → Itm) (out : α → PyData) (p : α → Bool) (xs : List α) {f : EvI} {g : Itm → Stt → Option Stt} {t : EvT} {e : EvU} {vs : List Nat} (hf : f st = some (xs.map it, ⟨r0, S, h⟩)) (hw : wipeR r0 vs = rw)
    (turn : ∀ x ∈ xs, ∀ acc : List PyData, acc.length ≤ 16777215 → lcTurn g t e vs (it x) ⟨rw, S, h ++ [.ol acc]⟩ = some ⟨rw, S, h ++ [.ol (acc ++ (if p x then [out x] else []))]⟩) (hl : xs.length ≤ 16777215) :
    lc f g t e vs st = some (.ol ((xs.filter p).map out), ⟨backR r0 rw vs, S, h⟩) := by
  unfold lc
  rw [hf, Option.bind_some]
  have := lcLoop_typed it (fun x => if p x then [out x] else []) (mk := fun acc => ⟨rw, S, h ++ [.ol acc]⟩) xs [] (fun x _ => by cases p x <;> simp) turn (by rw [List.length_nil, Nat.zero_add]; exact hl)
  have e1 : wipeS vs { (⟨r0, S, h⟩ : Stt) with h := h ++ [.ol []] } = ⟨rw, S, h ++ [.ol []]⟩ := by
    unfold wipeS
    rw [← hw]
  show (lcLoop (lcTurn g t e vs) (xs.map it) (wipeS vs { (⟨r0, S, h⟩ : Stt) with h := h ++ [.ol []] })).bind _ = _
  rw [e1, this, Option.bind_some]
  simp only [List.nil_append, List.getLast?_concat, List.dropLast_concat, Option.map_some, flat_filter]
/-- [e for x in xs if t] -/
theorem lcV (enc out : α → PyData) (p : α → Bool) (xs : List α) {f : EvI} {t : EvT} {e : EvU} (hf : f st = some (xs.map fun x => .v (.v (enc x)), ⟨r0, S, h⟩)) (hi : i < r0.length)
    (ht : ∀ x ∈ xs, ∀ h, t ⟨r0.set i (slU (enc x)), S, h⟩ = some (p x, ⟨r0.set i (slU (enc x)), S, h⟩)) (he : ∀ x ∈ xs, p x = true → ∀ h, e ⟨r0.set i (slU (enc x)), S, h⟩ = some (.v (out x), ⟨r0.set i (slU (enc x)), S, h⟩)) (hl : xs.length ≤ 16777215) :
    lc f (onV (gN i)) t e [i] st = some (.ol ((xs.filter p).map out), ⟨r0.set i (keepU r0[i]?), S, h⟩) := by
  have := lc_typed (vs := [i]) (rw := r0.set i none) (fun x => Itm.v (.v (enc x))) out p xs (g := onV (gN i)) (t := t) (e := e) hf rfl (fun x hx acc ha => ?_) hl
  · rw [this]
    show some (_, (⟨(r0.set i none).set i (keepU r0[i]?), S, h⟩ : Stt)) = _
    rw [List.set_set]
  · unfold lcTurn
    rw [q_onV, q_gN, if_pos (by simpa using hi), Option.bind_some, List.set_set, ht x hx, Option.bind_some]
    cases hp : p x with
    | false =>
      simp only [Bool.false_eq_true, if_false, List.append_nil]
      unfold wipeS wipeR
      simp [wipeR]
    | true =>
      simp only [if_true]
      rw [he x hx hp, Option.bind_some, q_pushH ha]
      unfold wipeS
      simp [wipeR]
/-- [e for x, y in pairs if t] -/
theorem lcP (e1 e2 out : α → PyData) (p : α → Bool) (xs : List α) {f : EvI} {t : EvT} {e : EvU} (hf : f st = some (xs.map fun x => .p (.v (e1 x)) (.v (e2 x)), ⟨r0, S, h⟩)) (hi : i < r0.length) (hj : j < r0.length) (hij : i ≠ j)
    (ht : ∀ x ∈ xs, ∀ h, t ⟨(r0.set i (slU (e1 x))).set j (slU (e2 x)), S, h⟩ = some (p x, ⟨(r0.set i (slU (e1 x))).set j (slU (e2 x)), S, h⟩)) (he : ∀ x ∈ xs, p x = true → ∀ h, e ⟨(r0.set i (slU (e1 x))).set j (slU (e2 x)), S, h⟩ = some (.v (out x), ⟨(r0.set i (slU (e1 x))).set j (slU (e2 x)), S, h⟩)) (hl : xs.length ≤ 16777215) :
    lc f (onT 2 (gCo (gN i) (gCo (gN j) gNo))) t e [i, j] st = some (.ol ((xs.filter p).map out), ⟨(r0.set j (keepU r0[j]?)).set i (keepU r0[i]?), S, h⟩) := by
  have key : ∀ o o2 : Option O, (((r0.set j none).set i none).set i o).set j o2 = (r0.set i o).set j o2 := fun o o2 => by
    rw [List.set_set, List.set_comm (l := r0) _ _ hij.symm, List.set_set]
  have key2 : ∀ o o2 : Option O, ((((r0.set i o).set j o2).set j none).set i none) = (r0.set j none).set i none := fun o o2 => by
    rw [List.set_set, List.set_comm _ _ hij, List.set_set]
  have := lc_typed (vs := [i, j]) (rw := (r0.set j none).set i none) (fun x => Itm.p (.v (e1 x)) (.v (e2 x))) out p xs (g := onT 2 (gCo (gN i) (gCo (gN j) gNo))) (t := t) (e := e) hf rfl (fun x hx acc ha => ?_) hl
  · rw [this]
    show some (_, (⟨(((r0.set j none).set i none).set j (keepU r0[j]?)).set i (keepU r0[i]?), S, h⟩ : Stt)) = _
    rw [List.set_comm (l := r0.set j none) _ _ hij, List.set_set, List.set_set]
  · unfold lcTurn
    rw [q_onTp, if_pos rfl, q_gCo, q_gN, if_pos (by simpa using hi), Option.bind_some, q_gCo, q_gN, if_pos (by simpa using hj), Option.bind_some, q_gNo, Option.bind_some, key, ht x hx, Option.bind_some]
    cases hp : p x with
    | false =>
      simp only [Bool.false_eq_true, if_false, List.append_nil]
      unfold wipeS
      show some (⟨(((r0.set i _).set j _).set j none).set i none, S, _⟩ : Stt) = _
      rw [key2]
    | true =>
      simp only [if_true]
      rw [he x hx hp, Option.bind_some, q_pushH ha]
      unfold wipeS
      show some (⟨(((r0.set i _).set j _).set j none).set i none, S, _⟩ : Stt) = _
      rw [key2]
theorem filter_yes (xs : List α) : xs.filter (fun _ => true) = xs := List.filter_eq_self.mpr fun _ _ => rfl
/-- [e for x in xs] -/
theorem lcV1 (enc out : α → PyData) (xs : List α) {f : EvI} {e : EvU} (hf : f st = some (xs.map fun x => .v (.v (enc x)), ⟨r0, S, h⟩)) (hi : i < r0.length)
    (he : ∀ x ∈ xs, ∀ h, e ⟨r0.set i (slU (enc x)), S, h⟩ = some (.v (out x), ⟨r0.set i (slU (enc x)), S, h⟩)) (hl : xs.length ≤ 16777215) :
    lc f (onV (gN i)) yes e [i] st = some (.ol (xs.map out), ⟨r0.set i (keepU r0[i]?), S, h⟩) := by
  rw [lcV enc out (fun _ => true) xs hf hi (fun _ _ _ => rfl) (fun x hx _ => he x hx) hl, filter_yes]
/-- [e for x, y in pairs] -/
theorem lcP1 (e1 e2 out : α → PyData) (xs : List α) {f : EvI} {e : EvU} (hf : f st = some (xs.map fun x => .p (.v (e1 x)) (.v (e2 x)), ⟨r0, S, h⟩)) (hi : i < r0.length) (hj : j < r0.length) (hij : i ≠ j)
    (he : ∀ x ∈ xs, ∀ h, e ⟨(r0.set i (slU (e1 x))).set j (slU (e2 x)), S, h⟩ = some (.v (out x), ⟨(r0.set i (slU (e1 x))).set j (slU (e2 x)), S, h⟩)) (hl : xs.length ≤ 16777215) :
    lc f (onT 2 (gCo (gN i) (gCo (gN j) gNo))) yes e [i, j] st = some (.ol (xs.map out), ⟨(r0.set j (keepU r0[j]?)).set i (keepU r0[i]?), S, h⟩) := by
  rw [lcP e1 e2 out (fun _ => true) xs hf hi hj hij (fun _ _ _ => rfl) (fun x hx _ => he x hx) hl, filter_yes]
theorem enI_map (enc : α → PyData) : ∀ (xs : List α) (n : Nat), enI n (xs.map enc) = (xs.zipIdx n).map fun p => .p (.v (.int (p.2 : Nat))) (.v (enc p.1))
  | [], _ => rfl
  | x :: xs, n => by
    show Itm.p _ _ :: enI (n + 1) (xs.map enc) = _
    rw [enI_map enc xs (n + 1)]
    rfl
theorem zpI_map {β : Type} (e1 : α → PyData) (e2 : β → PyData) : ∀ (xs : List α) (ys : List β), zpI (xs.map e1) (ys.map e2) = (xs.zip ys).map fun p => .p (.v (e1 p.1)) (.v (e2 p.2))
  | [], _ => by simp [zpI]
  | _ :: _, [] => by simp [zpI]
  | x :: xs, y :: ys => by
    show Itm.p _ _ :: zpI (xs.map e1) (ys.map e2) = _
    rw [zpI_map e1 e2 xs ys]
    rfl
/-- a loop by what holds between its turns -/
theorem loopI (it : α → Itm) (Inv : List α → Stt → Prop) {g : Itm → Stt → Option Stt} (xs : List α) (st0 : Stt) (h0 : Inv [] st0)
    (turn : ∀ pre x post st, xs = pre ++ x :: post → Inv pre st → ∃ st1 st2, g (it x) st = some st1 ∧ (b st1 = some (.nx, st2) ∨ b st1 = some (.ct, st2)) ∧ Inv (pre ++ [x]) st2) :
    ∃ st', fLoop g b (xs.map it) st0 = some (.nx, st') ∧ Inv xs st' := by
  have go : ∀ (post pre : List α) (st : Stt), xs = pre ++ post → Inv pre st → ∃ st', fLoop g b (post.map it) st = some (.nx, st') ∧ Inv xs st' := by
    intro post
    induction post with
    | nil => exact fun pre st e q => ⟨st, rfl, by rw [e, List.append_nil]; exact q⟩
    | cons x post ih =>
      intro pre st e q
      obtain ⟨st1, st2, e1, e2, q2⟩ := turn pre x post st e q
      obtain ⟨st', e3, q3⟩ := ih (pre ++ [x]) st2 (by rw [e]; simp) q2
      refine ⟨st', ?_, q3⟩
      rw [List.map_cons, q_floop1, e1, Option.bind_some]
      rcases e2 with e2 | e2
      · rw [e2]
        exact e3
      · rw [e2]
        exact e3
  exact go xs [] st0 rfl h0
/-- .. that may hand back a result -/
theorem loopR (it : α → Itm) (Inv : List α → Stt → Prop) (End : O → Stt → Prop) {g : Itm → Stt → Option Stt} (xs : List α) (st0 : Stt) (h0 : Inv [] st0)
    (turn : ∀ pre x post st, xs = pre ++ x :: post → Inv pre st → ∃ st1, g (it x) st = some st1 ∧ ((∃ st2, (b st1 = some (.nx, st2) ∨ b st1 = some (.ct, st2)) ∧ Inv (pre ++ [x]) st2) ∨ ∃ o st2, b st1 = some (.rt o, st2) ∧ End o st2)) :
    (∃ st', fLoop g b (xs.map it) st0 = some (.nx, st') ∧ Inv xs st') ∨ ∃ o st', fLoop g b (xs.map it) st0 = some (.rt o, st') ∧ End o st' := by
  have go : ∀ (post pre : List α) (st : Stt), xs = pre ++ post → Inv pre st → (∃ st', fLoop g b (post.map it) st = some (.nx, st') ∧ Inv xs st') ∨ ∃ o st', fLoop g b (post.map it) st = some (.rt o, st') ∧ End o st' := by
    intro post
    induction post with
    | nil => exact fun pre st e q => .inl ⟨st, rfl, by rw [e, List.append_nil]; exact q⟩
    | cons x post ih =>
      intro pre st e q
      obtain ⟨st1, e1, hh⟩ := turn pre x post st e q
      rw [List.map_cons, q_floop1, e1, Option.bind_some]
      rcases hh with ⟨st2, e2, q2⟩ | ⟨o, st2, e2, q2⟩
      · have := ih (pre ++ [x]) st2 (by rw [e]; simp) q2
        rcases e2 with e2 | e2 <;> (rw [e2]; exact this)
      · rw [e2]
        exact .inr ⟨o, st2, rfl, q2⟩
  exact go xs [] st0 rfl h0
/-- while -/
theorem sWhile_step {c : EvT} {b : EvS} {st1 st2 : Stt} {p : Fl × Stt} (hc : c st = some (true, st1)) (hb : b st1 = some (.nx, st2)) (hw : sWhile c b st2 = some p) : sWhile c b st = some p := by
  obtain ⟨n, e⟩ := sWhile_n hw
  refine sWhile_of (n := n + 1) ?_
  unfold wLoop
  rw [hc, Option.bind_some]
  simp only [if_true]
  rw [hb, Option.bind_some]
  exact e
theorem sWhile_end {c : EvT} {b : EvS} {st1 : Stt} (hc : c st = some (false, st1)) : sWhile c b st = some (.nx, st1) := by
  refine sWhile_of (n := 1) ?_
  unfold wLoop
  rw [hc, Option.bind_some]
  rfl
theorem sWhile_ret {c : EvT} {b : EvS} {st1 st2 : Stt} {o : O} (hc : c st = some (true, st1)) (hb : b st1 = some (.rt o, st2)) : sWhile c b st = some (.rt o, st2) := by
  refine sWhile_of (n := 1) ?_
  unfold wLoop
  rw [hc, Option.bind_some]
  simp only [if_true]
  rw [hb, Option.bind_some]
end
end MP

namespace MP
open PySem PySem.Spec PyProof.Rows L2

/-! ## data that may be compared and shown -/
structure Tame (n W : Nat) (d : PyData) : Prop where
  lay : d.canLay0 = true
  depth : d.depth ≤ n
  weight : d.weight ≤ W
  short : d.intsShort 13 = true
  show_ : d.showable = true
  ok : PyData.strOk d.shown = true
theorem strOk_app {a b : Str} : PyData.strOk (a ++ b) = (PyData.strOk a && PyData.strOk b) := by
  show (a.cps ++ b.cps).all _ = _
  rw [Array.all_append]
  rfl
theorem strOk_of (s : String) : PyData.strOk (Str.ofString s) = true := by
  unfold PyData.strOk
  rw [Array.all_eq_true']
  intro c hc
  have : c ∈ s.toList.map Char.toNat := by
    rw [← signs_ofString]
    exact Array.mem_def.mp hc
  obtain ⟨ch, _, rfl⟩ := List.mem_map.mp this
  simp only [decide_eq_true_eq]
  have := ch.valid
  rcases this with h | h
  · exact Nat.lt_trans h (by decide)
  · exact h.2
theorem strOk_text : ∀ (ts : List Str) (k : Nat) (acc : Str), PyData.strOk acc = true → (∀ t ∈ ts, PyData.strOk t = true) → PyData.strOk (textFrom k acc ts) = true
  | [], _, _, h, _ => h
  | t :: ts, k, acc, h, hh => by
    unfold textFrom
    refine strOk_text ts (k + 1) _ ?_ fun u hu => hh u (List.mem_cons_of_mem _ hu)
    rw [strOk_app, strOk_app, h, hh t List.mem_cons_self]
    split <;> rw [strOk_of] <;> rfl
theorem strOk_list {ts : List Str} (h : ∀ t ∈ ts, PyData.strOk t = true) : PyData.strOk (listText ts) = true := by
  unfold listText
  rw [strOk_app, strOk_text ts 0 _ (strOk_of _) h]
  exact strOk_of _
theorem strOk_join : ∀ {ts : List Str}, (∀ t ∈ ts, PyData.strOk t = true) → PyData.strOk (Str.join ", " ts) = true
  | [], _ => by
    show PyData.strOk Str.empty = true
    simp [PyData.strOk, Str.empty]
  | [t], h => h t List.mem_cons_self
  | t :: u :: r, h => by
    show PyData.strOk (t ++ ", " ++ Str.join ", " (u :: r)) = true
    rw [strOk_app, strOk_app, h t List.mem_cons_self, strOk_join fun x hx => h x (List.mem_cons_of_mem _ hx)]
    rw [strOk_of]
    rfl
theorem strOk_tuple {ts : List Str} (h : ∀ t ∈ ts, PyData.strOk t = true) : PyData.strOk (tupleText ts) = true := by
  unfold tupleText
  rw [strOk_app, strOk_app, strOk_join h, strOk_of]
  split <;> exact strOk_of _
theorem shownAll_mem : ∀ {ds : List PyData} {t : Str}, t ∈ PyData.shownAll ds → ∃ d ∈ ds, t = d.shown
  | [], _, h => by cases h
  | d :: ds, t, h => by
    unfold PyData.shownAll at h
    rcases List.mem_cons.mp h with rfl | h
    · exact ⟨d, List.mem_cons_self, rfl⟩
    · obtain ⟨x, hx, e⟩ := shownAll_mem h
      exact ⟨x, List.mem_cons_of_mem _ hx, e⟩
section
variable {n W : Nat}
theorem Tame.mono {n m W V : Nat} {d : PyData} (h : Tame n W d) (h1 : n ≤ m) (h2 : W ≤ V) : Tame m V d := ⟨h.lay, Nat.le_trans h.depth h1, Nat.le_trans h.weight h2, h.short, h.show_, h.ok⟩
theorem tame_none : Tame n W .none := ⟨rfl, Nat.zero_le _, Nat.zero_le _, rfl, rfl, strOk_of _⟩
theorem tame_bool {b : Bool} : Tame n W (.bool b) := ⟨rfl, Nat.zero_le _, Nat.zero_le _, rfl, rfl, by
  unfold PyData.shown
  split <;> exact strOk_of _⟩
theorem tame_int {i : Int} (h : i.natAbs ≤ 999999999999) (hW : 41 ≤ W) : Tame n W (.int i) := by
  have lg : i.natAbs.log2 < 40 := by
    by_cases h0 : i.natAbs = 0
    · rw [h0]
      decide
    · exact (Nat.log2_lt h0).mpr (by omega)
  refine ⟨rfl, Nat.zero_le _, ?_, ?_, ?_, strOk_of _⟩
  · unfold PyData.weight
    split
    · exact Nat.zero_le _
    · omega
  · unfold PyData.intsShort
    exact decide_eq_true (PyData.shown_int_le2 (by omega) (by omega))
  · unfold PyData.showable
    exact decide_eq_true (by omega)
theorem all_tame : ∀ {ds : List PyData}, (∀ d ∈ ds, Tame n W d) → PyData.canLayAll0 ds = true ∧ PyData.depthAll ds ≤ n ∧ PyData.weightAll ds ≤ ds.length * (W + 1) ∧ PyData.intsShortAll 13 ds = true ∧ PyData.showableAll ds = true
  | [], _ => ⟨rfl, Nat.zero_le _, Nat.zero_le _, rfl, rfl⟩
  | d :: ds, h => by
    obtain ⟨h1, h2, h3, h4, h5⟩ := all_tame fun x hx => h x (List.mem_cons_of_mem _ hx)
    have t := h d List.mem_cons_self
    refine ⟨?_, ?_, ?_, ?_, ?_⟩
    · unfold PyData.canLayAll0
      rw [t.lay, h1]
      rfl
    · unfold PyData.depthAll
      exact Nat.max_le.mpr ⟨t.depth, h2⟩
    · unfold PyData.weightAll
      have := t.weight
      rw [List.length_cons, Nat.add_mul, Nat.one_mul]
      omega
    · unfold PyData.intsShortAll
      rw [t.short, h4]
      rfl
    · unfold PyData.showableAll
      rw [t.show_, h5]
      rfl
theorem tame_list {ds : List PyData} {V : Nat} (h : ∀ d ∈ ds, Tame n W d) (hV : ds.length * (W + 1) ≤ V) : Tame (n + 1) V (.list ds) := by
  obtain ⟨h1, h2, h3, h4, h5⟩ := all_tame h
  refine ⟨h1, Nat.succ_le_succ h2, Nat.le_trans h3 hV, h4, h5, strOk_list fun t ht => ?_⟩
  obtain ⟨d, hd, rfl⟩ := shownAll_mem ht
  exact (h d hd).ok
theorem tame_tuple {ds : List PyData} {V : Nat} (h : ∀ d ∈ ds, Tame n W d) (hV : ds.length * (W + 1) ≤ V) : Tame (n + 1) V (.tuple ds) := by
  obtain ⟨h1, h2, h3, h4, h5⟩ := all_tame h
  refine ⟨h1, Nat.succ_le_succ h2, Nat.le_trans h3 hV, h4, h5, strOk_tuple fun t ht => ?_⟩
  obtain ⟨d, hd, rfl⟩ := shownAll_mem ht
  exact (h d hd).ok
theorem Tame.shaped {d : PyData} (h : Tame n W d) (hn : n ≤ 64) : SeqAt.shaped d = true := by
  unfold SeqAt.shaped
  rw [h.lay, decide_eq_true (Nat.le_trans h.depth hn)]
  rfl
theorem Tame.line {d : PyData} (h : Tame n W d) (hn : n ≤ 64) (hW : W ≤ 1048576) : lineOk d.shown.length = true := by
  have l : PyData.layable0 d = true := by
    unfold PyData.layable0
    rw [h.lay, decide_eq_true (Nat.le_trans h.depth hn), decide_eq_true (Nat.le_trans h.weight (Nat.le_trans hW (by decide)))]
    rfl
  exact lineOk_of (Nat.le_trans (shown_le13 l h.short) (by decide))
theorem q_repr {d : PyData} (h : Tame n W d) (hn : n ≤ 64) (hW : W ≤ 1048576) : kRepr [.v d] = some (.u (.v (.str d.shown))) := by
  unfold kRepr
  simp [h.shaped hn, h.show_, h.line hn hW]
theorem shaped_str {z : Str} (h : PyData.strOk z = true) : SeqAt.shaped (.str z) = true := by
  unfold SeqAt.shaped PyData.canLay0 PyData.depth
  rw [h]
  rfl
@[simp] theorem shaped_none : SeqAt.shaped .none = true := rfl
@[simp] theorem shaped_int {i : Int} : SeqAt.shaped (.int i) = true := rfl
@[simp] theorem shaped_bool {b : Bool} : SeqAt.shaped (.bool b) = true := rfl
/-! displays of dicts -/
@[simp] theorem q_evP0 {st : Stt} : evP [] st = some ([], st) := rfl
@[simp] theorem q_evP1 {st : Stt} {f g : EvU} {r : List (EvU × EvU)} : evP ((f, g) :: r) st = (f st).bind fun p => match p.1 with
  | .v k => (g p.2).bind fun q => (evP r q.2).map fun z => ((k, q.1) :: z.1, z.2)
  | _ => none := by
  first
  | rfl
  | (rw [evP]
     cases f st with
     | none => rfl
     | some p =>
       obtain ⟨u, s⟩ := p
       cases u <;> rfl)
@[simp] theorem q_dspF {st : Stt} {ps : List (EvU × EvU)} : dspF ps st = (evP ps { st with h := st.h ++ [.od []] }).bind fun q => match q.2.h.getLast? with
  | some (.od []) => if q.1.all (fun p => (keyV p.1).isSome) && decide (q.1.length ≤ 15) then some (.od (putAll q.1), { q.2 with h := q.2.h.dropLast }) else none
  | _ => none := rfl
@[simp] theorem q_dnew {st : Stt} : dnew st = some (.od [], st) := rfl
@[simp] theorem keyV_s {z : Str} : keyV (.str z) = some (.inr z) := rfl
@[simp] theorem keyV_i {i : Int} : keyV (.int i) = some (.inl i) := rfl
/-- no texts, no nesting: any numbers -/
def flatD : PyData → Bool
  | .none => true
  | .bool _ => true
  | .int _ => true
  | _ => false
theorem flat_all' : ∀ {ds : List PyData}, ds.all flatD = true → PyData.canLayAll0 ds = true ∧ PyData.depthAll ds = 0
  | [], _ => ⟨rfl, rfl⟩
  | d :: ds, h => by
    rw [List.all_cons] at h
    have h := Bool.and_eq_true_iff.mp h
    obtain ⟨h1, h2⟩ := flat_all' h.2
    unfold PyData.canLayAll0 PyData.depthAll
    rw [h1, h2]
    cases d <;> first | exact ⟨rfl, rfl⟩ | exact absurd h.1 (by simp [flatD])
theorem shaped_tup {ds : List PyData} (h : ds.all flatD = true) : SeqAt.shaped (.tuple ds) = true := by
  obtain ⟨h1, h2⟩ := flat_all' h
  unfold SeqAt.shaped PyData.canLay0 PyData.depth
  rw [h1, h2]
  rfl
theorem shaped_lst {ds : List PyData} (h : ds.all flatD = true) : SeqAt.shaped (.list ds) = true := by
  obtain ⟨h1, h2⟩ := flat_all' h
  unfold SeqAt.shaped PyData.canLay0 PyData.depth
  rw [h1, h2]
  rfl
theorem flat_ints {xs : List Int} : (xs.map PyData.int).all flatD = true := by
  rw [List.all_map]
  exact List.all_eq_true.mpr fun _ _ => rfl
@[simp] theorem eqv_int {a b : Int} : PyData.eqv (.int a) (.int b) = (a == b) := rfl
@[simp] theorem eqv_none : PyData.eqv .none .none = true := rfl
@[simp] theorem eqv_ni {b : Int} : PyData.eqv .none (.int b) = false := rfl
@[simp] theorem eqv_in {b : Int} : PyData.eqv (.int b) .none = false := rfl
@[simp] theorem eqv_str {a b : Str} : PyData.eqv (.str a) (.str b) = (a == b) := rfl
@[simp] theorem eqv_bool {a b : Bool} : PyData.eqv (.bool a) (.bool b) = (a == b) := rfl
@[simp] theorem eqvAll_nil : PyData.eqvAll [] [] = true := rfl
@[simp] theorem eqvAll_cons {x y : PyData} {xs ys : List PyData} : PyData.eqvAll (x :: xs) (y :: ys) = (PyData.eqv x y && PyData.eqvAll xs ys) := rfl
@[simp] theorem eqvAll_c0 {x : PyData} {xs : List PyData} : PyData.eqvAll (x :: xs) [] = false := rfl
@[simp] theorem eqvAll_0c {x : PyData} {xs : List PyData} : PyData.eqvAll [] (x :: xs) = false := rfl
@[simp] theorem eqv_tup {xs ys : List PyData} : PyData.eqv (.tuple xs) (.tuple ys) = PyData.eqvAll xs ys := rfl
@[simp] theorem eqv_lst {xs ys : List PyData} : PyData.eqv (.list xs) (.list ys) = PyData.eqvAll xs ys := rfl
theorem eqvAll_map {α : Type} [BEq α] [LawfulBEq α] (enc : α → PyData) (h : ∀ x y, PyData.eqv (enc x) (enc y) = (x == y)) : ∀ xs ys : List α, PyData.eqvAll (xs.map enc) (ys.map enc) = (xs == ys)
  | [], [] => rfl
  | [], y :: ys => rfl
  | x :: xs, [] => rfl
  | x :: xs, y :: ys => by
    rw [List.map_cons, List.map_cons, eqvAll_cons, h, eqvAll_map enc h xs ys]
    rfl
end
end MP

namespace MP
open PySem PySem.Spec PyProof.Rows L2

section
variable {α A : Type} {st : Stt} {i j : Nat} {b : EvS} {r r0 rw : List (Option O)} {S : List Cell} {h : List O}
/-- [e for x in xs], each turn of which may change the cells -/
theorem lcI (it : α → PyData) (Inv : List α → List PyData → List Cell → Prop) (xs : List α) {f : EvI} {e : EvU} (hf : f st = some (xs.map fun x => .v (.v (it x)), ⟨r0, S, h⟩)) (hi : i < r0.length) (h0 : Inv [] [] S) (hl : xs.length ≤ 16777215)
    (turn : ∀ pre x post acc S, xs = pre ++ x :: post → Inv pre acc S → ∀ h, ∃ d S', e ⟨r0.set i (slU (it x)), S, h⟩ = some (.v d, ⟨r0.set i (slU (it x)), S', h⟩) ∧ Inv (pre ++ [x]) (acc ++ [d]) S') :
    ∃ out S', lc f (onV (gN i)) yes e [i] st = some (.ol out, ⟨r0.set i (keepU r0[i]?), S', h⟩) ∧ Inv xs out S' := by
  have go : ∀ (post pre : List α) (acc : List PyData) (S : List Cell), xs = pre ++ post → acc.length = pre.length → Inv pre acc S →
      ∃ out S', lcLoop (lcTurn (onV (gN i)) yes e [i]) (post.map fun x => .v (.v (it x))) ⟨r0.set i none, S, h ++ [.ol acc]⟩ = some ⟨r0.set i none, S', h ++ [.ol out]⟩ ∧ Inv xs out S' := by
    intro post
    induction post with
    | nil =>
      intro pre acc S e1 e2 q
      refine ⟨acc, S, rfl, ?_⟩
      rw [e1, List.append_nil]
      exact q
    | cons x post ih =>
      intro pre acc S e1 e2 q
      have lp : pre.length < xs.length := by rw [e1, List.length_append, List.length_cons]; omega
      obtain ⟨d, S1, e3, q1⟩ := turn pre x post acc S e1 q (h ++ [.ol acc])
      obtain ⟨out, S2, e4, q2⟩ := ih (pre ++ [x]) (acc ++ [d]) S1 (by rw [e1]; simp) (by simp [e2]) q1
      refine ⟨out, S2, ?_, q2⟩
      unfold lcLoop
      rw [List.map_cons]
      show (lcTurn _ _ _ _ _ _).bind _ = _
      have : lcTurn (onV (gN i)) yes e [i] (.v (.v (it x))) ⟨r0.set i none, S, h ++ [.ol acc]⟩ = some ⟨r0.set i none, S1, h ++ [.ol (acc ++ [d])]⟩ := by
        unfold lcTurn
        rw [q_onV, q_gN, if_pos (by simpa using hi), Option.bind_some, List.set_set, q_yes, Option.bind_some]
        simp only [if_true]
        rw [e3, Option.bind_some, q_pushH (by omega)]
        unfold wipeS
        simp [wipeR]
      rw [this, Option.bind_some]
      exact e4
  obtain ⟨out, S', e1, q⟩ := go xs [] [] S rfl rfl h0
  refine ⟨out, S', ?_, q⟩
  unfold lc
  rw [hf, Option.bind_some]
  have e2 : wipeS [i] { (⟨r0, S, h⟩ : Stt) with h := h ++ [.ol []] } = ⟨r0.set i none, S, h ++ [.ol []]⟩ := rfl
  show (lcLoop (lcTurn (onV (gN i)) yes e [i]) (xs.map fun x => .v (.v (it x))) (wipeS [i] { (⟨r0, S, h⟩ : Stt) with h := h ++ [.ol []] })).bind _ = _
  rw [e2, e1, Option.bind_some]
  simp only [List.getLast?_concat, List.dropLast_concat, Option.map_some]
  show some (_, (⟨(r0.set i none).set i (keepU r0[i]?), S', h⟩ : Stt)) = _
  rw [List.set_set]
/-- .. and the slots -/
theorem lcG (it : α → PyData) (Inv : List α → List PyData → List (Option O) → List Cell → Prop) (xs : List α) {f : EvI} {e : EvU} (hf : f st = some (xs.map fun x => .v (.v (it x)), ⟨r0, S, h⟩)) (h0 : Inv [] [] (r0.set i none) S) (hl : xs.length ≤ 16777215)
    (hlen : ∀ pre acc r S, Inv pre acc r S → i < r.length)
    (turn : ∀ pre x post acc r S, xs = pre ++ x :: post → Inv pre acc r S → ∀ h, ∃ d r' S', e ⟨r.set i (slU (it x)), S, h⟩ = some (.v d, ⟨r', S', h⟩) ∧ Inv (pre ++ [x]) (acc ++ [d]) (r'.set i none) S') :
    ∃ out r' S', lc f (onV (gN i)) yes e [i] st = some (.ol out, ⟨r'.set i (keepU r0[i]?), S', h⟩) ∧ Inv xs out r' S' := by
  have go : ∀ (post pre : List α) (acc : List PyData) (r : List (Option O)) (S : List Cell), xs = pre ++ post → acc.length = pre.length → Inv pre acc r S →
      ∃ out r' S', lcLoop (lcTurn (onV (gN i)) yes e [i]) (post.map fun x => .v (.v (it x))) ⟨r, S, h ++ [.ol acc]⟩ = some ⟨r', S', h ++ [.ol out]⟩ ∧ Inv xs out r' S' := by
    intro post
    induction post with
    | nil =>
      intro pre acc r S e1 e2 q
      refine ⟨acc, r, S, rfl, ?_⟩
      rw [e1, List.append_nil]
      exact q
    | cons x post ih =>
      intro pre acc r S e1 e2 q
      have lp : pre.length < xs.length := by rw [e1, List.length_append, List.length_cons]; omega
      obtain ⟨d, r1, S1, e3, q1⟩ := turn pre x post acc r S e1 q (h ++ [.ol acc])
      obtain ⟨out, r2, S2, e4, q2⟩ := ih (pre ++ [x]) (acc ++ [d]) (r1.set i none) S1 (by rw [e1]; simp) (by simp [e2]) q1
      refine ⟨out, r2, S2, ?_, q2⟩
      unfold lcLoop
      rw [List.map_cons]
      show (lcTurn _ _ _ _ _ _).bind _ = _
      have : lcTurn (onV (gN i)) yes e [i] (.v (.v (it x))) ⟨r, S, h ++ [.ol acc]⟩ = some ⟨r1.set i none, S1, h ++ [.ol (acc ++ [d])]⟩ := by
        unfold lcTurn
        rw [q_onV, q_gN, if_pos (hlen _ _ _ _ q), Option.bind_some, q_yes, Option.bind_some]
        simp only [if_true]
        rw [e3, Option.bind_some, q_pushH (by omega)]
        rfl
      rw [this, Option.bind_some]
      exact e4
  obtain ⟨out, r', S', e1, q⟩ := go xs [] [] _ S rfl rfl h0
  refine ⟨out, r', S', ?_, q⟩
  unfold lc
  rw [hf, Option.bind_some]
  have e2 : wipeS [i] { (⟨r0, S, h⟩ : Stt) with h := h ++ [.ol []] } = ⟨r0.set i none, S, h ++ [.ol []]⟩ := rfl
  show (lcLoop (lcTurn (onV (gN i)) yes e [i]) (xs.map fun x => .v (.v (it x))) (wipeS [i] { (⟨r0, S, h⟩ : Stt) with h := h ++ [.ol []] })).bind _ = _
  rw [e2, e1, Option.bind_some]
  simp only [List.getLast?_concat, List.dropLast_concat, Option.map_some]
  rfl
end

/-! ## dicts -/
theorem dget_nil {k : PyData} : dget [] k = none := rfl
theorem dget_cons {p : PyData × U} {kvs : List (PyData × U)} {k : PyData} : dget (p :: kvs) k = if kf p.1 = kf k then some p.2 else dget kvs k := by
  unfold dget
  rw [List.find?_cons]
  unfold sameK
  by_cases h : kf p.1 = kf k <;> simp [h]
theorem dget_app {k : PyData} {y : List (PyData × U)} : ∀ {x : List (PyData × U)}, dget (x ++ y) k = (dget x k).or (dget y k)
  | [] => rfl
  | p :: x => by
    rw [List.cons_append, dget_cons, dget_cons, dget_app (x := x)]
    split <;> rfl
theorem dget_upd {k k' : PyData} {v : U} : ∀ {kvs : List (PyData × U)}, dget (kvs.map fun p => if sameK k p then (p.1, v) else p) k' = if kf k = kf k' then (dget kvs k').map (fun _ => v) else dget kvs k'
  | [] => by simp [dget_nil]
  | p :: kvs => by
    rw [List.map_cons, dget_cons, dget_cons, dget_upd (kvs := kvs)]
    unfold sameK
    by_cases h1 : kf p.1 = kf k
    · by_cases h2 : kf k = kf k'
      · simp [h1, h2]
      · simp [h1, h2]
    · by_cases h2 : kf k = kf k'
      · have : ¬ kf p.1 = kf k' := fun z => h1 (z.trans h2.symm)
        simp [h1, h2, this]
      · simp [h1, h2]
theorem dget_dput {kvs : List (PyData × U)} {k k' : PyData} {v : U} : dget (dput kvs k v) k' = if kf k = kf k' then some v else dget kvs k' := by
  have hc : ∀ a b, kf a = kf b → dget kvs a = dget kvs b := fun a b h => by
    unfold dget sameK
    rw [h]
  unfold dput
  cases h : dget kvs k with
  | none =>
    simp only [Option.isSome_none, Bool.false_eq_true, if_false]
    rw [dget_app, dget_cons, dget_nil]
    by_cases h2 : kf k = kf k'
    · rw [← hc _ _ h2, h, if_pos h2]
      rfl
    · rw [if_neg h2]
      simp [h2]
  | some x =>
    simp only [Option.isSome_some, if_true]
    rw [dget_upd]
    by_cases h2 : kf k = kf k'
    · rw [if_pos h2, if_pos h2, ← hc _ _ h2, h]
      rfl
    · rw [if_neg h2, if_neg h2]
theorem dput_len {kvs : List (PyData × U)} {k : PyData} {v : U} : (dput kvs k v).length ≤ kvs.length + 1 := by
  unfold dput
  split <;> simp
theorem dput_tups {kvs : List (PyData × U)} {k : PyData} {v : U} (h : tupKeys kvs = true) (hk : isTup k = true) : tupKeys (dput kvs k v) = true := by
  cases kvs with
  | nil => exact hk
  | cons p kvs =>
    unfold dput
    split
    · rw [List.map_cons]
      show isTup (if sameK k p then (p.1, v) else p).1 = true
      split <;> exact h
    · exact h
/-- the keys of flat tuples -/
theorem nk_flat {α : Type} (enc : α → PyData) (h : ∀ a, ∃ k, nk (enc a) = some k ∧ k.depth = 0) (inj : ∀ a b, nk (enc a) = nk (enc b) → a = b) : ∀ xs : List α, ∃ ks, nks (xs.map enc) = some ks ∧ NestedKey.depthAll ks = 0
  | [] => ⟨[], rfl, rfl⟩
  | x :: xs => by
    obtain ⟨k, e1, d1⟩ := h x
    obtain ⟨ks, e2, d2⟩ := nk_flat enc h inj xs
    refine ⟨k :: ks, ?_, ?_⟩
    · show (nk (enc x)).bind _ = _
      rw [e1, Option.bind_some, e2]
      rfl
    · simp [NestedKey.depthAll, d1, d2]
theorem nks_inj {α : Type} (enc : α → PyData) (h : ∀ a, ∃ k, nk (enc a) = some k ∧ k.depth = 0) (inj : ∀ a b, nk (enc a) = nk (enc b) → a = b) : ∀ xs ys : List α, nks (xs.map enc) = nks (ys.map enc) → xs = ys
  | [], [], _ => rfl
  | [], y :: ys, e => by
    obtain ⟨ks, e1, _⟩ := nk_flat enc h inj ys
    obtain ⟨k, e2, _⟩ := h y
    have : nks ((y :: ys).map enc) = some (k :: ks) := by
      show (nk (enc y)).bind _ = _
      rw [e2, Option.bind_some, e1]
      rfl
    rw [this] at e
    exact nomatch e
  | x :: xs, [], e => by
    obtain ⟨ks, e1, _⟩ := nk_flat enc h inj xs
    obtain ⟨k, e2, _⟩ := h x
    have : nks ((x :: xs).map enc) = some (k :: ks) := by
      show (nk (enc x)).bind _ = _
      rw [e2, Option.bind_some, e1]
      rfl
    rw [this] at e
    exact nomatch e
  | x :: xs, y :: ys, e => by
    obtain ⟨ks, e1, _⟩ := nk_flat enc h inj xs
    obtain ⟨k, e2, _⟩ := h x
    obtain ⟨ks', e1', _⟩ := nk_flat enc h inj ys
    obtain ⟨k', e2', _⟩ := h y
    have a1 : nks ((x :: xs).map enc) = some (k :: ks) := by
      show (nk (enc x)).bind _ = _
      rw [e2, Option.bind_some, e1]
      rfl
    have a2 : nks ((y :: ys).map enc) = some (k' :: ks') := by
      show (nk (enc y)).bind _ = _
      rw [e2', Option.bind_some, e1']
      rfl
    rw [a1, a2] at e
    injection e with e
    injection e with q1 q2
    rw [inj x y (by rw [e2, e2', q1]), nks_inj enc h inj xs ys (by rw [e1, e1', q2])]
theorem kf_tup {α : Type} (enc : α → PyData) (h : ∀ a, ∃ k, nk (enc a) = some k ∧ k.depth = 0) (inj : ∀ a b, nk (enc a) = nk (enc b) → a = b) (xs : List α) : (kf (.tuple (xs.map enc))).isSome = true := by
  obtain ⟨ks, e, d⟩ := nk_flat enc h inj xs
  unfold kf
  rw [show nk (.tuple (xs.map enc)) = (nks (xs.map enc)).map .tup from rfl, e]
  simp [NestedKey.depth, d]
theorem kf_inj {α : Type} (enc : α → PyData) (h : ∀ a, ∃ k, nk (enc a) = some k ∧ k.depth = 0) (inj : ∀ a b, nk (enc a) = nk (enc b) → a = b) {xs ys : List α} (q : kf (.tuple (xs.map enc)) = kf (.tuple (ys.map enc))) : xs = ys := by
  obtain ⟨ks, e, d⟩ := nk_flat enc h inj xs
  obtain ⟨ks', e', d'⟩ := nk_flat enc h inj ys
  unfold kf at q
  rw [show nk (.tuple (xs.map enc)) = (nks (xs.map enc)).map .tup from rfl, show nk (.tuple (ys.map enc)) = (nks (ys.map enc)).map .tup from rfl, e, e'] at q
  simp [NestedKey.depth, d, d'] at q
  exact nks_inj enc h inj xs ys (by rw [e, e', q])
end MP

namespace MP
open PySem PySem.Spec PyProof.Rows L2 PySem.W

/-! ## sorted(x, key=f), f a def of the program -/
/-- a number or a text, as it stands -/
def ImmK (u : Value) (k : PyData) : Prop := (∃ i t, u = .int i t ∧ k = .int i) ∨ ∃ x t, u = .str x t ∧ k = .str x
theorem ImmK.reads {u : Value} {k : PyData} (h : ImmK u k) (g : Heap) : Reads g u k [] := by
  rcases h with ⟨i, t, rfl, rfl⟩ | ⟨x, t, rfl, rfl⟩
  · exact .int i t
  · exact .str x t
/-- a heap without what stands at an address -/
def holeAt (h : Heap) (b : Addr) : Heap := h.update b fun o => ⟨o.cls, o.dict, .freed, o.slots⟩
theorem hole_none (h : Heap) (b : Addr) : (holeAt h b).get? b = none := by
  unfold holeAt Heap.get? Heap.update
  simp only [Array.getElem?_modify]
  cases h.objs[b]? <;> simp
theorem hole_ne (h : Heap) {b c : Addr} (hc : c ≠ b) : (holeAt h b).get? c = h.get? c := (Heap.SameBut.update h b _).2 c hc
theorem hole_of {h : Heap} {b c : Addr} {o : Obj} (e : (holeAt h b).get? c = some o) : c ≠ b ∧ h.get? c = some o := by
  have : c ≠ b := by
    rintro rfl
    rw [hole_none] at e
    cases e
  exact ⟨this, by rw [← hole_ne h this]; exact e⟩
section
variable {prog : Program} {w : World} {A : Around} {E : Value → Shared → Prop} {P : PySem.Fin → Shared → Prop} {s : Shared} {a kS : Addr} {vs : List Value} {kz : List PyData} {e1 n : Nat} {f : Value}
/-- one key more -/
theorem keys_turn {s' : Shared} {kA : Array Value} {e : Nat} {v u : Value} {k : PyData} {j : Nat} (nk : s'.heap.get? kS = some (seqObj "list" kA e)) (hz : kA.size ≤ vs.length) (hZ : vs.length ≤ sizeLine)
    {Q : Unit → Shared → Prop} (h : ∀ c, (s'.heap.update kS (Obj.mapSeq (·.push u))).get? kS = some (seqObj "list" (kA.push u) c) → (∀ b o, b ≠ kS → s'.heap.get? b = some o → (s'.heap.update kS (Obj.mapSeq (·.push u))).get? b = some o) → Q () { s' with heap := s'.heap.update kS (Obj.mapSeq (·.push u)) }) :
    wpAny (model prog w) A (Builtin.List.listUpdate (.ref kS) (·.push u)) Q E s' := by
  have up := get?_update_seq nk (·.push u)
  refine listUpdate_at nk rfl (h _ up fun b o hb eb => ?_) (Nat.le_trans hz hZ) (by rw [Array.size_push]; omega)
  exact ((Heap.SameBut.update s'.heap kS _).2 b hb).trans eb
theorem keys_rest (J : Shared → Prop) (hJ : J s) (nk : s.heap.get? kS = some (seqObj "list" #[] 0)) (na : s.heap.get? a = some (seqObj "list" #[] e1)) (hka : kS ≠ a) (hlen : kz.length = vs.length) (hZ : vs.length ≤ sizeLine)
    (hal : AllAlike kz) (hsk : Sortable kz) (hu : ∀ d, d ∈ kz → A.units + d.depth < cLine)
    (turn : ∀ (i : Nat) (v : Value) (k : PyData) (s' : Shared) (o1 o2 : Obj), vs[i]? = some v → kz[i]? = some k → J s' → s'.heap.get? kS = some o1 → s'.heap.get? a = some o2 →
      wpAny (model prog w) A (call f [v]) (fun u s2 => ImmK u k ∧ J s2 ∧ s2.heap.get? kS = some o1 ∧ s2.heap.get? a = some o2) (fun _ _ => False) s')
    (still : ∀ (s' : Shared) (g : Heap), J s' → (∀ b o, b ≠ kS → s'.heap.get? b = some o → g.get? b = some o) → J { s' with heap := g })
    (h : ∀ s' g tk out c, J s' → (∀ b o, b ≠ a → b ≠ kS → s'.heap.get? b = some o → g.get? b = some o) → g.get? a = some (seqObj "list" (List.toArray out) c) → KeyedOut false kz vs out → P (.done (.ret .none)) { s' with heap := g, toks := tk }) :
    wpAny (model prog w) A (ksk_rest a f false vs.toArray e1 (.ref kS)) P E s := by
  unfold ksk_rest
  refine wpAny_bind (wpAny_rule ?_)
  first
    | rw [List.forIn_toArray]
    | (rw [← Array.forIn_toList]; simp only [List.toList_toArray])
  refine wpAny_bind (ksk_fold (fun i s' => J s' ∧ ∃ kA e, s'.heap.get? kS = some (seqObj "list" kA e) ∧ s'.heap.get? a = some (seqObj "list" #[] e1) ∧ EachIs ImmK kA.toList (kz.take i)) vs 0 s
    ⟨hJ, #[], 0, nk, na, by rw [List.take_zero]; exact .nil⟩ (fun j x s' hx hI => ?_) fun s' hI => ?_)
  · obtain ⟨hj, kA, e, nk', na', hk⟩ := hI
    simp only [Nat.zero_add] at hk ⊢
    have lt : j < vs.length := (List.getElem?_eq_some_iff.mp hx).1
    have lk : j < kz.length := by omega
    have ek : kz[j]? = some kz[j] := List.getElem?_eq_getElem lk
    have sz : kA.size ≤ vs.length := by
      have := hk.length
      rw [Array.length_toList, List.length_take] at this
      omega
    refine wpAny_bind (wpAny_attempt (wpAny_mono (turn j x kz[j] s' _ _ hx ek hj nk' na') (fun v s2 q => ?_) fun _ _ z => z.elim))
    obtain ⟨im, j2, k2, a2⟩ := q
    try dsimp only
    refine wpAny_bind (keys_turn (kS := kS) (vs := vs) (k := kz[j]) (v := x) (j := j) k2 sz hZ fun c hc keep => wpAny_pure ⟨rfl, still s2 _ j2 keep, kA.push v, c, hc, keep a _ hka.symm a2, ?_⟩)
    have t1 : kz.take (j + 1) = kz.take j ++ [kz[j]] := by rw [List.take_add_one, ek]; rfl
    rw [t1, Array.toList_push]
    exact each_snoc im hk
  · obtain ⟨hj, kA, e, nk', na', hk⟩ := hI
    have hk' : EachIs ImmK kA.toList kz := by
      rw [List.take_of_length_le (by omega)] at hk
      exact hk
    have sz : kA.size = vs.length := by
      have := hk'.length
      rw [Array.length_toList] at this
      omega
    have rd : EachIs (fun v k => ∃ as, Reads s'.heap v k as) kA.toList kz := hk'.mono fun v k q => ⟨[], q.reads _⟩
    try dsimp only
    refine wpAny_bind (listItems_at nk' rfl ?_)
    refine keyH_end (κ := dataKind s'.heap kz) (h₁ := holeAt s'.heap kS) (fun b o hb q => (hole_of q).2) (hole_none _ _) nk' na' hka (SortsAt.data rd hal hsk hu) sz hZ fun g tk c kp hg => ?_
    exact h s' g tk _ c hj (fun b o h1 h2 q => kp b o h1 (by rw [hole_ne _ h2]; exact q)) hg ⟨s'.heap, kA.toList, hal, rfl, rd⟩
theorem keys_tree (J : Shared → Prop) (ho : s.heap.get? a = some (seqObj "list" vs.toArray n)) (hJ : ∀ g : Heap, (∀ b o, b ≠ a → s.heap.get? b = some o → g.get? b = some o) → J { s with heap := g }) (hlen : kz.length = vs.length) (hZ : vs.length ≤ sizeLine)
    (hal : AllAlike kz) (hsk : Sortable kz) (hu : ∀ d, d ∈ kz → A.units + d.depth < cLine)
    (turn : ∀ (i : Nat) (v : Value) (k : PyData) (s' : Shared) (o1 o2 : Obj), vs[i]? = some v → kz[i]? = some k → J s' → s'.heap.get? (s.heap.objs.size + 1) = some o1 → s'.heap.get? a = some o2 →
      wpAny (model prog w) A (call f [v]) (fun u s2 => ImmK u k ∧ J s2 ∧ s2.heap.get? (s.heap.objs.size + 1) = some o1 ∧ s2.heap.get? a = some o2) (fun _ _ => False) s')
    (still : ∀ (s' : Shared) (g : Heap), J s' → (∀ b o, b ≠ s.heap.objs.size + 1 → s'.heap.get? b = some o → g.get? b = some o) → J { s' with heap := g })
    (h : ∀ s' g tk out c, J s' → (∀ b o, b ≠ a → b ≠ s.heap.objs.size + 1 → s'.heap.get? b = some o → g.get? b = some o) → g.get? a = some (seqObj "list" (List.toArray out) c) → KeyedOut false kz vs out → P (.done (.ret .none)) { s' with heap := g, toks := tk }) :
    wpAny (model prog w) A (ksk_tree a f false) P E s := by
  have la : a < s.heap.objs.size := Heap.lt_size ho
  have ho1 := get?_update_seq ho fun _ => (#[] : Array Value)
  have sz : ((s.heap.update a (Obj.mapSeq fun _ => (#[] : Array Value))).push (seqObj "tuple" vs.toArray 0)).objs.size = s.heap.objs.size + 1 := by rw [size_push', Heap.size_update]
  unfold ksk_tree
  refine wpAny_bind (listItems_at ho rfl (wpAny_bind (listUpdate_at ho rfl ?_ (by rw [List.size_toArray]; exact hZ) (Nat.zero_le _))))
  refine wpAny_bind (seqEpoch_at ho1 rfl (wpAny_bind (wpAny_newTuple ?_ (show vs.length ≤ _ from hZ))))
  refine wpAny_bind (wpAny_newList (wpAny_holding ?_) (Nat.zero_le _))
  have e2 := keys_rest (prog := prog) (w := w) (A := A) (E := E) (P := P) (a := a) (kS := s.heap.objs.size + 1) (vs := vs) (kz := kz) (f := f) (e1 := if (#[] : Array Value).size == vs.toArray.size then n else n + 1) (s := { s with heap := sortingHeap s.heap a vs }) J
    (hJ _ fun b o hb q => sortingHeap_old hb q) (by
      unfold sortingHeap
      rw [← sz]
      exact Heap.get?_push_size _ rfl) (by
      unfold sortingHeap
      exact Heap.get?_push_of_some _ (Heap.get?_push_of_some _ ho1)) (Nat.ne_of_gt (Nat.lt_succ_of_lt la)) hlen hZ hal hsk hu turn still h
  rw [← sz] at e2
  exact e2
end
end MP

namespace MP
open PySem PySem.Spec PyProof.Rows L2

/-! ## the entries of a dict, as they stand -/
theorem pairedOf {α β : Type} {R : α → β → Prop} : ∀ {l : List α} {m : List β}, l.length = m.length → (∀ (i : Nat) a b, l[i]? = some a → m[i]? = some b → R a b) → Paired R l m
  | [], [], _, _ => .nil
  | [], _ :: _, h, _ => nomatch h
  | _ :: _, [], h, _ => nomatch h
  | a :: l, b :: m, h, k => .cons (k 0 a b rfl rfl) (pairedOf (by simpa using h) fun i x y e1 e2 => k (i + 1) x y (by simpa using e1) (by simpa using e2))
structure Ents (B : Bs) (w : Wd) (h : Heap) (a : Addr) (kvs : List (PyData × U)) (es : Array DictEntry) (ep : Nat) (ks vs : List V) : Prop where
  raw : h.DictRaw a es ep
  size : es.size = kvs.length
  line : es.size ≤ sizeLine
  sys : (a == sysModules) = false
  keys : RpAll w.F (kvs.map (·.1)) ks
  vals : RUs B w (kvs.map (·.2)) vs
  kz : Vals ks (es.toList.map (·.key))
  vz : Vals vs (es.toList.map (·.val))
theorem keyV_rp {F : Hp} {d : PyData} {k : Key} (h : keyV d = some k) : Rp F d (kV k) := by
  cases d with
  | int i => cases h; exact .int i
  | str x => cases h; exact .str x
  | _ => cases h
section
variable {X : Cx} {pins : List (Addr × Obj)} {σ : L2.St} {H : Hp} {s : Shared} {w : Wd} {a : Addr}
theorem ents_of (I : Inv X pins σ H s) {kvs : List (PyData × U)} (h : RDictR (bsX X) w H a kvs) : ∃ es ep ks vs, Ents (bsX X) w s.heap a kvs es ep ks vs := by
  rcases h with ⟨ys, q, r⟩ | ⟨n, xs, q, r⟩
  · obtain ⟨z, sys, vs', kv, dd⟩ := dk_rd I.hok q
    obtain ⟨es, ep, raw, sz, at_⟩ := dd.raw
    have l1 : kvs.length = ys.length := Paired.length r
    have l2 : ys.length = vs'.length := Paired.length kv
    refine ⟨es, ep, ys.map (fun y => kV y.1), ys.map (·.2), raw, by omega, by omega, sys, ?_, ?_, ?_, ?_⟩
    · clear dd sz at_ kv l1 l2 z q
      induction r with
      | nil => exact .nil
      | cons r t ih => exact .cons (keyV_rp r.1) ih
    · clear dd sz at_ kv l1 l2 z q
      induction r with
      | nil => exact .nil
      | cons r t ih => exact .cons r.2 ih
    · refine pairedOf (by simp; omega) fun i x y e1 e2 => ?_
      rw [List.getElem?_map, Option.map_eq_some_iff] at e1 e2
      obtain ⟨p, hp, rfl⟩ := e1
      obtain ⟨e, he, rfl⟩ := e2
      rw [Array.getElem?_toList] at he
      have hi : i < es.size := (Array.getElem?_eq_some_iff.mp he).1
      have ee : es[i] = e := (Array.getElem?_eq_some_iff.mp he).2
      obtain ⟨q', hq, r1, r2⟩ := pairGet kv hp
      have := at_ i hi q'.1 q'.2 (by rw [hq])
      rw [ee] at this
      rw [r1]
      exact relV_key this.1
    · refine pairedOf (by simp; omega) fun i x y e1 e2 => ?_
      rw [List.getElem?_map, Option.map_eq_some_iff] at e1 e2
      obtain ⟨p, hp, rfl⟩ := e1
      obtain ⟨e, he, rfl⟩ := e2
      rw [Array.getElem?_toList] at he
      have hi : i < es.size := (Array.getElem?_eq_some_iff.mp he).1
      have ee : es[i] = e := (Array.getElem?_eq_some_iff.mp he).2
      obtain ⟨q', hq, r1, r2⟩ := pairGet kv hp
      have := at_ i hi q'.1 q'.2 (by rw [hq])
      rw [ee] at this
      rw [this.2]
      exact r2
  · obtain ⟨ys, p, sys, z, o, es, ep, h1, h2, h3, h4, h5⟩ := (q.ok I.hok).1
    have l1 : kvs.length = xs.length := Paired.length r
    have l2 : xs.length = ys.length := Paired.length p
    have sz : es.size = ys.length := by
      have := congrArg List.length h4
      simpa using this
    have ent : ∀ (i : Nat) (y : NestedKey × Addr × Value), ys[i]? = some y → es.toList[i]? = some (entryOfKey (nestedKind X.prog X.w) y) := fun i y e => by
      rw [h4, List.getElem?_map, e]
      rfl
    refine ⟨es, ep, xs.map (fun x => .ref x.2.1), xs.map (·.2.2), ⟨o, h1, h2, h3⟩, by omega, by omega, sys, ?_, ?_, ?_, ?_⟩
    · clear p l1 l2 sz ent h4 h5 z q n
      induction r with
      | nil => exact .nil
      | cons r t ih => exact .cons r.2.2.1 ih
    · clear p l1 l2 sz ent h4 h5 z q n
      induction r with
      | nil => exact .nil
      | cons r t ih => exact .cons r.2.2.2 ih
    · refine pairedOf (by simp; omega) fun i x y e1 e2 => ?_
      rw [List.getElem?_map, Option.map_eq_some_iff] at e1 e2
      obtain ⟨c, hc, rfl⟩ := e1
      obtain ⟨e, he, rfl⟩ := e2
      obtain ⟨y', hy, r1, r2, r3⟩ := pairGet p hc
      rw [ent i y' hy] at he
      rw [← Option.some.inj he, r2]
      rfl
    · refine pairedOf (by simp; omega) fun i x y e1 e2 => ?_
      rw [List.getElem?_map, Option.map_eq_some_iff] at e1 e2
      obtain ⟨c, hc, rfl⟩ := e1
      obtain ⟨e, he, rfl⟩ := e2
      obtain ⟨y', hy, r1, r2, r3⟩ := pairGet p hc
      rw [ent i y' hy] at he
      rw [← Option.some.inj he]
      exact r3
theorem items_keys {es : Array DictEntry} {acc : Array Value} (h : ItemsOf (fun i v => ∃ hi : i < es.size, v = es[i].key) acc es.size) : acc.toList = es.toList.map (·.key) := by
  apply List.ext_getElem
  · simp [h.1]
  · intro i a b
    have a' : i < acc.size := by simpa using a
    obtain ⟨hi, e⟩ := h.2 i acc[i] (Array.getElem?_eq_getElem a')
    simpa using e

/-! ## list(d) -/
def kListD : Sq → Option O
  | .d kvs => some (.ol (kvs.map (·.1)))
  | .l xs => some (.ol xs)
  | .t xs => some (.ol xs)
  | _ => none
def rListD (X : Cx) : List V → Hp → VK → Prop := fun vs H Q => ∃ (a : Addr) (w : Wd) (kvs : List (PyData × U)), vs = [.ref a] ∧ RDictR (bsX X) w H a kvs ∧
  ∀ l us, H l = none → RpAll w.F (kvs.map (·.1)) us → Q (.ref l) (upd H l (.lst us))
theorem cr_listD (hc : X.calm = true) : CallR X (.type "list") (rListD X) := by
  rintro pins s σ H xs us Q I r ⟨a, w, kvs, rfl, hd, q⟩
  obtain ⟨u, rfl, rx⟩ := vals1 r
  cases rx
  obtain ⟨es, ep, ks, vs, e⟩ := ents_of I hd
  refine PySem.W.kdl_call (KdlSrc.rawDict e.sys) (I.ok.hd hc) e.raw e.line fun h' tk acc c kp hl hi => ?_
  have hk := items_keys hi
  have new : ObjOk X.prog X.w (upd H s.heap.objs.size (.lst ks)) h' s.heap.objs.size (.lst ks) := by
    refine ⟨by rw [Paired.length e.kz, List.length_map, Array.length_toList]; exact e.line, acc.toList, c, by rw [hk]; exact e.kz, ?_⟩
    rw [Array.toArray_toList]
    exact hl
  exact ⟨.ref s.heap.objs.size, _, I.laid (t' := tk) kp (Nat.le_refl _) new, rfl, q _ _ (I.hok.fresh (Nat.le_refl _)) e.keys⟩
theorem e_listD {e : Expr} {p pos : Pos} {f : EvR} (hc : X.calm = true) (hg : Gl X "list") (hm : X.mg "list" = none) (ha : PE X e (tR (bsX X) f)) (he : starEach [e] X.env = (false, eval e X.env) :: starEach [] X.env := by rfl) : PE X (.Call (.Name "list" p) [e] [] pos) (tE (bsX X) (b1 kListD f)) := by
  refine e_ty1 (call_list_of.or (cr_listD hc)) (fun c o hk w σ H st v Q s r q => ?_) hg hm (by decide +kernel) ha (he := he)
  unfold kListD at hk
  split at hk
  · cases hk
    obtain ⟨a, rfl, hd⟩ := r
    refine .inr ⟨a, w, _, rfl, hd, fun l us hl hr => ?_⟩
    obtain ⟨w', le, s', r'⟩ := s.newLst hl hr
    exact q w' _ _ le s' r'
  · cases hk
    obtain ⟨a, vs, rfl, hS, hr⟩ := r
    refine .inl ⟨a, vs, rfl, .inl hS, fun l hl => ?_⟩
    obtain ⟨w', le, s', r'⟩ := s.newLst hl hr
    exact q w' _ _ le s' r'
  · cases hk
    obtain ⟨a, vs, rfl, hS, hr, _⟩ := r
    refine .inl ⟨a, vs, rfl, .inr hS, fun l hl => ?_⟩
    obtain ⟨w', le, s', r'⟩ := s.newLst hl hr
    exact q w' _ _ le s' r'
  · cases hk
end
end MP

namespace MP
open PySem PySem.Spec PyProof.Rows L2

/-! ## the sort by a def, in the reading -/
def keyOf (F : FnS) (S : List Cell) (d : PyData) : PyData := match F [.v d] S with
  | some (.u (.v k), _) => k
  | _ => .none
def isImm : PyData → Bool
  | .int _ => true
  | .str _ => true
  | _ => false
/-- the keys of some items: the def gives each, and changes nothing -/
def Keyed (F : FnS) (S : List Cell) (xs : List PyData) : Prop := (∀ d ∈ xs, F [.v d] S = some (.u (.v (keyOf F S d)), S) ∧ isImm (keyOf F S d) = true) ∧ alikeB (xs.map (keyOf F S)) = true
open Classical in
noncomputable def srtBy (F : FnS) (f : EvR) : EvO := fun st => (f st).bind fun p => (look p.2 p.1).bind fun c => match c with
  | .l xs => if Keyed F p.2.S xs then some (.ol (srt (keyOf F p.2.S) xs), p.2) else none
  | .t xs => if Keyed F p.2.S xs then some (.ol (srt (keyOf F p.2.S) xs), p.2) else none
  | .d kvs => if Keyed F p.2.S (kvs.map (·.1)) then some (.ol (srt (keyOf F p.2.S) (kvs.map (·.1))), p.2) else none
  | _ => none
/-- sorted(x, ..): the items collected (tokens may be drawn), then the sort of a new list -/
theorem sorted_srcT {prog : Program} {w : World} {A : Around} {E : Value → Shared → Prop} {s : Shared} {v : Value} {vs : List Value} {kw : List (Str × Value)} {Q : Value → Shared → Prop} (ha : argsOk "sorted" ⟨[v], kw⟩) (hL : vs.length ≤ sizeLine)
    (hc : ∀ (E' : Value → Shared → Prop) (Q' : List Value → Shared → Prop), (∀ h' tk, (∀ b o, s.heap.get? b = some o → h'.get? b = some o) → Q' vs { s with heap := h', toks := tk }) → wpAny (model prog w) A.in1 (collect v) Q' E' s)
    (h : ∀ (h' : Heap) (tk : Nat) (E' : Value → Shared → Prop), (∀ b o, s.heap.get? b = some o → h'.get? b = some o) →
      wpAny (model prog w) A.in1 (call (.builtin "list.sort") [.ref h'.objs.size] kw) (fun _ s' => Q (.ref h'.objs.size) s') E' { s with heap := h'.push (seqObj "list" vs.toArray 0), toks := tk }) :
    wpAny (model prog w) A (call (.builtin "sorted") [v] kw) Q E s := by
  refine call_function_entry_kw kind_sorted plain_sorted entry_sorted ha ?_
  unfold Builtin.«sorted»
  refine wpAny_bind (m := checkCount "sorted" 1 1 _) (wpAny_pure (wpAny_bind (hc _ _ fun h' tk hk => wpAny_bind (wpAny_newList (wpAny_bind (wpAny_holding ?_)) hL))))
  exact wpAny_mono (h h' tk _ hk) (fun _ s' hq => wpAny_pure ⟨_, rfl, hq⟩) fun _ _ e => e
def rSortBy (X : Cx) (F : FnS) (v : V) (σ : L2.St) (H : Hp) (Q : VK) : Prop := ∃ (a : Addr) (w : Wd) (st : Stt) (ds : List PyData) (us : List V), v = .ref a ∧ Sim (bsX X) w σ H st ∧ ((SqL X.K H a us ∨ SqT X.K H a us) ∧ RpAll w.F ds us ∨ ∃ kvs, RDictR (bsX X) w H a kvs ∧ ds = kvs.map (·.1)) ∧ Keyed F st.S ds ∧
  ∀ w' H' l vs', Le w w' → Sim (bsX X) w' σ H' st → H' l = none → RpAll w'.F (srt (keyOf F st.S) ds) vs' → Q (.ref l) (upd H' l (.lst vs'))
theorem imm_of {F : Hp} {k : PyData} {v : V} {u : Value} (hk : isImm k = true) (r : Rp F k v) (q : RelV v u) : ImmK u k := by
  cases r with
  | int i =>
    obtain ⟨t, rfl⟩ := q
    exact .inl ⟨i, t, rfl, rfl⟩
  | str x =>
    obtain ⟨t, rfl⟩ := q
    exact .inr ⟨x, t, rfl, rfl⟩
  | _ => cases hk
section
variable {X : Cx} {k : Nat} {f : Addr} {fd : FuncData} {ps : List Str} {x : Str} {e : Expr} {pos p p2 kp : Pos} {te : TE} {F : FnS}
theorem pe_sortBy (D : Df X.prog X.w X.K X.mg X.base k x f fd ps 1 F) (hr : Room (k + 1) X.A) (hgu : X.A.guards = some []) (hg : Gl X "sorted") (hm : X.mg "sorted" = none) (hg2 : Gl X x) (ha : PE X e te)
    (he : backTo pos (starEach [e] X.env) = (false, eval e X.env) :: backTo pos (starEach [] X.env) := by rfl) (hs : starEach [e] X.env = (false, eval e X.env) :: starEach [] X.env := by rfl) (hp : (backTo pos (starEach [e] X.env)).any (·.1) = false := by rfl)
    (h1 : (backToKw pos (keywordEach [⟨some "key", .Name x p2, kp⟩] X.env)).all (·.1.isSome) = true := by rfl) (h2 : (backToKw pos (keywordEach [⟨some "key", .Name x p2, kp⟩] X.env)).any (·.1.isNone) = false := by rfl)
    (h3 : (backToKw pos (keywordEach [⟨some "key", .Name x p2, kp⟩] X.env)).filterMap (·.1) = [Str.ofString "key"] := by rfl) (hdb : (x == ("__debug__" : Str)) = false := by decide) :
    PE X (.Call (.Name "sorted" p) [e] [⟨some "key", .Name x p2, kp⟩] pos) (fun σ H Q => te σ H fun v H1 => rSortBy X F v σ H1 Q) := by
  refine ⟨fun pins s σ H Q I h => ?_⟩
  refine wpAny_Call_Name_kw (ld_blt I hg hm (by decide +kernel : bootBuiltins "sorted" = some (.builtin "sorted")) ?_)
  let R : List V → Hp → Prop := fun vs H1 => match vs with
    | [v] => rSortBy X F v σ H1 Q
    | _ => False
  have hR' : tCons te tNil σ H R := h
  refine callWith_kw (thn ((pa_cons ha pa_nil hs).run pos pins s σ H R I hR') fun us s1 hh => ?_) he hp h1 h2
  obtain ⟨vs, H1, I1, r1, q1⟩ := hh
  obtain ⟨v1, rfl, q1⟩ : ∃ v, vs = [v] ∧ rSortBy X F v σ H1 Q := by
    cases vs with
    | nil => exact False.elim q1
    | cons v t =>
      cases t with
      | nil => exact ⟨v, rfl, q1⟩
      | cons _ _ => exact False.elim q1
  show wpAny _ _ (evalAll ((do let v ← eval (.Name x p2) X.env; standAt pos; pure v) :: [])) _ _ s1
  refine wpAny_evalAll_cons (wpAny_bind (ld_glob I1 hg2 D.m (wpAny_bind (wpAny_standAt (wpAny_pure (wpAny_evalAll_nil ?_)))) hdb))
  rw [h3]
  show wpAny (model X.prog X.w) X.A (call (.builtin "sorted") us [(Str.ofString "key", .ref f)]) _ _ s1
  cases r1 with
  | cons rv t =>
    cases t
    obtain ⟨a, w1, st, ds, ws, rfl, S1, hSd, ⟨hK, hA⟩, q⟩ := q1
    cases rv
    obtain ⟨ws, us, hR, rv, hz, hc⟩ : ∃ (ws : List V) (us : List Value), RpAll w1.F ds ws ∧ Vals ws us ∧ ws.length ≤ sizeLine ∧ ∀ (E' : Value → Shared → Prop) (Q' : List Value → Shared → Prop), (∀ h' tk, (∀ b o, s1.heap.get? b = some o → h'.get? b = some o) → Q' us { s1 with heap := h', toks := tk }) → wpAny (model X.prog X.w) X.A.in1 (collect (.ref a)) Q' E' s1 := by
      rcases hSd with ⟨hS, hR⟩ | ⟨kvs, hD, rfl⟩
      · obtain ⟨hz, us, rv, hc⟩ := collect_sq I1 hS
        exact ⟨ws, us, hR, rv, hz, fun E' Q' k => hc _ _ _ fun h' hk => k h' s1.toks hk⟩
      · obtain ⟨es, ep, ks, vs, en⟩ := ents_of I1 hD
        refine ⟨ks, _, en.keys, en.kz, by rw [Paired.length en.kz, List.length_map, Array.length_toList]; exact en.line, fun E' Q' k => ?_⟩
        refine PySem.W.kdu_collect (KdlSrc.rawDict en.sys) hr.hd en.raw en.line fun h' tk acc kp hi => ?_
        rw [items_keys hi]
        exact k h' tk kp
    have hlu : us.length = ds.length := by rw [← rv.length, hR.length]
    have hle : us.length ≤ sizeLine := by rw [← rv.length]; exact hz
    refine sorted_srcT (ksk_s1 _ _) hle hc fun h' tk0 E' hk => ?_
    have I2 : Inv X pins σ H1 { s1 with heap := h', toks := tk0 } := I1.kept hk
    have I3 : Inv X pins σ H1 { s1 with heap := h'.push (seqObj "list" us.toArray 0), toks := tk0 } := I1.kept fun b o e => Heap.get?_push_of_some _ (hk b o e)
    have new : (h'.push (seqObj "list" us.toArray 0)).get? h'.objs.size = some (seqObj "list" us.toArray 0) := Heap.get?_push_size _ rfl
    have sz : (h'.push (seqObj "list" us.toArray 0)).objs.size = h'.objs.size + 1 := size_push' _ _
    refine wpAny_call_entry_kw slot_list_sort ⟨_, new, rfl⟩ entry_list_sort ?_ (ksk_l1 _ _)
    rw [ksk_t1]
    have fpA : ∀ {H2 : Hp}, H2 h'.objs.size = none → FpOk X pins H2 h'.objs.size := fun n => I2.fpOk (Nat.le_refl _) n
    have fpK : ∀ {H2 : Hp}, H2 (h'.objs.size + 1 + 1) = none → FpOk X pins H2 (h'.objs.size + 1 + 1) := fun n => I2.fpOk (Nat.le_succ_of_le (Nat.le_succ _)) n
    have nA : H1 h'.objs.size = none := I2.hok.fresh (Nat.le_refl _)
    have nK : H1 (h'.objs.size + 1 + 1) = none := I2.hok.fresh (Nat.le_succ_of_le (Nat.le_succ _))
    have frA : ∀ {b : Addr}, h'.objs.size ≤ b → b ∉ frs X.stack := fun {b} hb z => by
      rcases List.mem_cons.mp (I2.stkSub b z) with e | e
      · exact absurd (Nat.lt_of_lt_of_le I2.lt (e ▸ hb)) (Nat.lt_irrefl _)
      · exact I2.nofs hb e
    have imms : ∀ d' ∈ ds.map (keyOf F st.S), isImm d' = true := fun d' hd' => by
      obtain ⟨d, hd, rfl⟩ := List.mem_map.mp hd'
      exact (hK d hd).2
    refine keys_tree (kz := ds.map (keyOf F st.S)) (n := 0) (vs := us) (fun s' => ∃ w' H', Le w1 w' ∧ Sim (bsX X) w' σ H' st ∧ Inv X pins σ H' s' ∧ H' h'.objs.size = none ∧ H' (h'.objs.size + 1 + 1) = none) new (fun g hg => ?_) (by rw [List.length_map]; exact hlu.symm) hle (alikeB_ok hA) (.inr fun d hd => ?_) (fun d hd => ?_) ?_ ?_ ?_
    · exact ⟨w1, H1, Le.rfl' w1, S1, I3.turnedL (t' := tk0) (ch := [h'.objs.size]) (fun b o hb e => hg b o (fun z => hb (by simp [z])) e) (fun b hb => by
        rw [List.mem_singleton.mp hb]
        exact fpA nA), nA, nK⟩
    · have := imms d hd
      cases d <;> first | (simp [isImm] at this; done) | exact ⟨fun z => (nomatch z), fun _ z => (nomatch z)⟩
    · have := imms d hd
      have hu := hr.un
      have d0 : d.depth = 0 := by cases d <;> first | rfl | (simp [isImm] at this)
      rw [d0]
      show X.A.units + 1 + 1 + 0 < cLine
      omega
    · rintro i v kk s' o1 o2 hv hkk ⟨w', H', le, sm, I', na, nk⟩ g1 g2
      rw [sz] at g1
      obtain ⟨d, hd, rfl⟩ : ∃ d, ds[i]? = some d ∧ kk = keyOf F st.S d := by
        rw [List.getElem?_map] at hkk
        cases q : ds[i]? with
        | none => rw [q] at hkk; cases hkk
        | some d =>
          rw [q] at hkk
          exact ⟨d, rfl, (Option.some.inj hkk).symm⟩
      have hmem : d ∈ ds := List.mem_of_getElem? hd
      obtain ⟨v0, g0, rp⟩ := hR.get hd
      obtain ⟨u0, g3, rel⟩ := rv.get g0
      rw [hv] at g3
      obtain rfl : v = u0 := Option.some.inj g3
      obtain ⟨hF, hi⟩ := hK d hmem
      have sp := spF_ok (n := 1) (Q := fun v2 H2 => ∃ w2, Le w' w2 ∧ Sim (bsX X) w2 σ H2 st ∧ RO (bsX X) w2 H2 .tmp (.u (.v (keyOf F st.S d))) v2) sm (xs := [.v d]) (vs := [v0]) (.cons (Rp.mono le.sub rp) .nil) rfl hF fun w2 v2 H2 l2 s2 r2 => ⟨w2, l2, s2, r2⟩
      have hr2 : Room k X.A.in1.in1 := ⟨hr.hd, by have := hr.dp; show X.A.depth + 3 * k + 5 < _; omega, by have := hr.un; show X.A.units + 1 + 1 + 16 * k + 200 < _; omega⟩
      have bn := D.b s' [v] I'.kIn (by have := D.fn.len _ _ _ _ sp; rw [← this]; rfl)
      refine wpAny_call (codeAny_mono (D.fn.run X.A.in1.in1 X.stack s' H' ⟨[v], []⟩ [v] [v0] _ _ hr2 hgu I'.env0.in1.in1 bn (.cons rel .nil) sp) fun r s2 hq => ?_)
      cases r with
      | error e => exact False.elim hq
      | ok fl =>
        cases fl with
        | ret u =>
          obtain ⟨v2, H2, os, bare, un, hok, r2, w2, l2, sm2, ro⟩ := hq
          have I'' := I'.call' (ch := []) os un hok bare fun b z => absurd z (by simp)
          refine ⟨imm_of hi ro r2, ⟨w2, H2, le.trans l2, sm2, I'', un.free _ _ g2 na (by simp), un.free _ _ g1 nk (by simp)⟩, ?_, un.keep _ _ g2 na (frA (Nat.le_refl _)) (by simp)⟩
          rw [sz]
          exact un.keep _ _ g1 nk (frA (Nat.le_succ_of_le (Nat.le_succ _))) (by simp)
        | next => exact hq.elim
        | brk => exact hq.elim
        | cont => exact hq.elim
    · rintro s' g ⟨w', H', le, sm, I', na, nk⟩ hg
      rw [sz] at hg
      exact ⟨w', H', le, sm, I'.turnedL (t' := s'.toks) (ch := [h'.objs.size + 1 + 1]) (fun b o hb e => hg b o (fun z => hb (by simp [z])) e) (fun b hb => by
        rw [List.mem_singleton.mp hb]
        exact fpK nk), na, nk⟩
    · rintro s' g tk out c ⟨w', H', le, sm, I', na, nk⟩ hg ha hko
      rw [sz] at hg
      have I4 : Inv X pins σ H' { s' with heap := g, toks := tk } := I'.turnedL (ch := [h'.objs.size, h'.objs.size + 1 + 1]) (fun b o hb e => hg b o (fun z => hb (by simp [z])) (fun z => hb (by simp [z])) e) fun b hb => by
        simp only [List.mem_cons, List.not_mem_nil, or_false] at hb
        rcases hb with rfl | rfl
        · exact fpA na
        · exact fpK nk
      obtain ⟨vs', r1, r2⟩ := of_ea (PySem.W.keyedOut_each (keyOf F st.S) hko (ea_of hR rv))
      have hlo : vs'.length ≤ sizeLine := by
        rw [r1.length, hko.length (by rw [List.length_map]; exact hlu.symm)]
        exact hle
      refine ⟨_, rfl, ⟨.ref h'.objs.size, upd H' h'.objs.size (.lst vs'), I4.take (t' := tk) (fun b o _ e => e) (fpA na) ⟨hlo, out, c, r1, ha⟩, rfl, q w' H' _ vs' le sm na (r2.mono le.sub)⟩⟩
/-- sorted(e, key=x) -/
theorem e_sortBy {fr : EvR} (D : Df X.prog X.w X.K X.mg X.base k x f fd ps 1 F) (hr : Room (k + 1) X.A) (hgu : X.A.guards = some []) (hg : Gl X "sorted") (hm : X.mg "sorted" = none) (hg2 : Gl X x) (ha : PE X e (tR (bsX X) fr))
    (he : backTo pos (starEach [e] X.env) = (false, eval e X.env) :: backTo pos (starEach [] X.env) := by rfl) (hs : starEach [e] X.env = (false, eval e X.env) :: starEach [] X.env := by rfl) (hp : (backTo pos (starEach [e] X.env)).any (·.1) = false := by rfl)
    (h1 : (backToKw pos (keywordEach [⟨some "key", .Name x p2, kp⟩] X.env)).all (·.1.isSome) = true := by rfl) (h2 : (backToKw pos (keywordEach [⟨some "key", .Name x p2, kp⟩] X.env)).any (·.1.isNone) = false := by rfl)
    (h3 : (backToKw pos (keywordEach [⟨some "key", .Name x p2, kp⟩] X.env)).filterMap (·.1) = [Str.ofString "key"] := by rfl) (hdb : (x == ("__debug__" : Str)) = false := by decide) :
    PE X (.Call (.Name "sorted" p) [e] [⟨some "key", .Name x p2, kp⟩] pos) (tE (bsX X) (srtBy F fr)) :=
  peW (pe_sortBy D hr hgu hg hm hg2 ha he hs hp h1 h2 h3 hdb) fun σ H Q ⟨w, st, o, st', s, hf, q⟩ => by
    unfold srtBy at hf
    cases ea : fr st with
    | none => rw [ea] at hf; cases hf
    | some p =>
      obtain ⟨y, st1⟩ := p
      rw [ea, Option.bind_some] at hf
      refine ⟨w, st, y, st1, s, ea, fun w2 v2 H2 l2 s2 r2 => ?_⟩
      cases el : look st1 y with
      | none => simp only at hf; rw [el] at hf; cases hf
      | some c =>
        simp only at hf
        rw [el, Option.bind_some] at hf
        have rs := look_ok s2 r2 el
        have fin : ∀ (xs : List PyData), Keyed F st1.S xs → (∃ a us, v2 = .ref a ∧ ((SqL X.K H2 a us ∨ SqT X.K H2 a us) ∧ RpAll w2.F xs us ∨ ∃ kvs, RDictR (bsX X) w2 H2 a kvs ∧ xs = kvs.map (·.1))) → o = .ol (srt (keyOf F st1.S) xs) → st1 = st' → rSortBy X F v2 σ H2 Q := by
          rintro xs hK ⟨a, us, rfl, hS⟩ rfl rfl
          refine ⟨a, w2, st1, xs, us, rfl, s2, hS, hK, fun w' H' l vs' le sm hl rv => ?_⟩
          obtain ⟨w3, l3, s3, r3⟩ := sm.newLst hl rv
          exact q w3 _ _ ((l2.trans le).trans l3) s3 r3
        cases c with
        | l xs =>
          obtain ⟨a, us, e1, e2, e3⟩ := rs
          simp only at hf
          split at hf
          · next hK =>
            injection hf with hf
            injection hf with f1 f2
            exact fin xs hK ⟨a, us, e1, .inl ⟨.inl e2, e3⟩⟩ f1.symm f2
          · cases hf
        | t xs =>
          obtain ⟨a, us, e1, e2, e3, _⟩ := rs
          simp only at hf
          split at hf
          · next hK =>
            injection hf with hf
            injection hf with f1 f2
            exact fin xs hK ⟨a, us, e1, .inl ⟨.inr e2, e3⟩⟩ f1.symm f2
          · cases hf
        | d kvs =>
          obtain ⟨a, e1, e2⟩ := rs
          simp only at hf
          split at hf
          · next hK =>
            injection hf with hf
            injection hf with f1 f2
            exact fin _ hK ⟨a, [], e1, .inr ⟨kvs, e2, rfl⟩⟩ f1.symm f2
          · cases hf
        | s z => cases hf
end
end MP

namespace MP
open PySem PySem.Spec PyProof.Rows L2

/-! ## a dict that will not change any more -/
def wvs : List (PyData × U) → Option (List (PyData × Wv))
  | [] => some []
  | (k, .v d) :: r => (wvs r).map ((k, .v d) :: ·)
  | (k, .ref l) :: r => (wvs r).map ((k, .ref l) :: ·)
  | (_, .scr _) :: _ => none
  | (_, .fd _) :: _ => none
/-- a name, its dict frozen -/
def nmF (i : Nat) : EvU := fun st => match st.r[i]? with
  | some (some (.u (.fd kvs))) => some (.fd kvs, st)
  | some (some (.od kvs)) => (wvs kvs).map fun ws => (.fd ws, { st with r := st.r.set i (some (.u (.fd ws))) })
  | _ => none
section
variable {B : Bs} {w w' : Wd} {σ : L2.St} {H H' : Hp} {st : Stt} {a : Addr} {i : Nat}
theorem wvs_pair {β : Type} {G : PyData × U → β → Prop} {G' : PyData × Wv → β → Prop} (h1 : ∀ k d q, G (k, .v d) q → G' (k, .v d) q) (h2 : ∀ k l q, G (k, .ref l) q → G' (k, .ref l) q) : ∀ {kvs : List (PyData × U)} {ws : List (PyData × Wv)} {ys : List β}, wvs kvs = some ws → Paired G kvs ys → Paired G' ws ys
  | [], _, _, e, .nil => by cases e; exact .nil
  | (k, .v d) :: r, ws, _, e, .cons p t => by
    unfold wvs at e
    obtain ⟨ws', e', rfl⟩ := Option.map_eq_some_iff.mp e
    exact .cons (h1 _ _ _ p) (wvs_pair h1 h2 e' t)
  | (k, .ref l) :: r, ws, _, e, .cons p t => by
    unfold wvs at e
    obtain ⟨ws', e', rfl⟩ := Option.map_eq_some_iff.mp e
    exact .cons (h2 _ _ _ p) (wvs_pair h1 h2 e' t)
  | (_, .scr _) :: _, _, _, e, _ => by cases e
  | (_, .fd _) :: _, _, _, e, _ => by cases e
theorem wvs_ne {kvs : List (PyData × U)} {ws : List (PyData × Wv)} (e : wvs kvs = some ws) (h : kvs ≠ []) : ws ≠ [] := by
  cases kvs with
  | nil => exact absurd rfl h
  | cons p r =>
    obtain ⟨k, x⟩ := p
    cases x <;> simp only [wvs] at e
    · obtain ⟨ws', _, rfl⟩ := Option.map_eq_some_iff.mp e
      simp
    · obtain ⟨ws', _, rfl⟩ := Option.map_eq_some_iff.mp e
      simp
    · cases e
    · cases e
theorem Sim.lockAt (s : Sim B w σ H st) {u : HO} {od : Obj} {kvs : List (PyData × U)} {ws : List (PyData × Wv)} (hv : σ[i]? = some (some (.ref a))) (ht : w.T a = .slot i) (hu : H a = some u) (hd : RDict B w H a kvs) (hw : wvs kvs = some ws) :
    Le w (w.set a (.fz (.frz od u))) ∧ Sim B (w.set a (.fz (.frz od u))) σ (upd H a (.frz od u)) { st with r := st.r.set i (some (.u (.fd ws))) } ∧ RU B (w.set a (.fz (.frz od u))) (.fd ws) (.ref a) := by
  have f : Free1 w H a := .inr (.inl (by rw [ht]; trivial))
  have le := leFz s.h f (.frz od u)
  have fa : (w.set a (.fz (.frz od u))).F a = some (.frz od u) := Wd.F_iff.mpr Wd.set_same
  have r2 : RU B (w.set a (.fz (.frz od u))) (.fd ws) (.ref a) := by
    refine ⟨a, rfl, ?_⟩
    rcases hd with ⟨ys, q, r⟩ | ⟨n, xs, q, r⟩
    · rw [hu] at q
      cases q
      exact .inl ⟨od, ys, fa, wvs_pair (fun k d q z => ⟨z.1, Rp.mono le.sub z.2⟩) (fun k l q z => ⟨z.1, z.2.elim fun b z => ⟨b, le.m _ _ z.1, z.2⟩⟩) hw r⟩
    · rw [hu] at q
      cases q
      exact .inr ⟨wvs_ne hw n, od, xs, fa, wvs_pair (fun k d q z => ⟨z.1, z.2.1, z.2.2.1.mono le.sub, Rp.mono le.sub z.2.2.2⟩) (fun k l q z => ⟨z.1, z.2.1, z.2.2.1.mono le.sub, z.2.2.2.elim fun b z => ⟨b, le.m _ _ z.1, z.2⟩⟩) hw r⟩
  exact ⟨le, ⟨s.h.put (o := .frz od u) (tg := .fz (.frz od u)) f trivial fun u e => by cases e; rfl, s.r.re (a := a) le (fun b hb => ⟨upd_ne hb, Wd.set_ne hb⟩) hv (fun _ => ht) r2⟩, r2⟩
end
section
variable {X : Cx} {e tg : Expr} {pos : Pos} {i : Nat}
theorem e_nmF (h : PE X e (tVar i)) : PE X e (tU (bsX X) (nmF i)) := by
  refine ⟨fun pins s σ H Q I ⟨w, st, x, st', sm, hf, q⟩ => ?_⟩
  unfold nmF at hf
  split at hf
  · rename_i kvs e1
    cases hf
    obtain ⟨v, h1, h2⟩ := sm.r.slot i _ e1
    exact h.run pins s σ H Q I ⟨v, h1, q w v H (Le.rfl' w) sm h2⟩
  · rename_i kvs e1
    obtain ⟨ws, hw, hf⟩ := Option.map_eq_some_iff.mp hf
    cases hf
    obtain ⟨v, h1, a, rfl, t, hc⟩ := sm.r.slot i _ e1
    refine thn (h.run pins s σ H (fun v' H' => v' = .ref a ∧ H' = H) I ⟨_, h1, rfl, rfl⟩) ?_
    rintro u s1 ⟨v', H', I1, r1, rfl, rfl⟩
    obtain ⟨o, ho⟩ := RC.some hc
    have mu := RC.mut hc
    rw [ho] at mu
    obtain ⟨od, I2⟩ := I1.lock ho mu
    obtain ⟨l, s2, r2⟩ := sm.lockAt (od := od) h1 t ho hc hw
    exact ⟨_, _, I2, r1, q _ _ _ l s2 r2⟩
  · cases hf

/-! ### walks over such a dict -/
def ItR (d : Addr) (o : Obj) (vs : List V) : It :=
  ⟨fun i H => (∃ u, H d = some (.frz o u)) ∧ i < vs.length, fun i H x H' => H' = H ∧ vs[i]? = some x, fun i H => (∃ u, H d = some (.frz o u)) ∧ vs.length ≤ i⟩
theorem turnRK {P : Program} {w : World} {K : PySem.W.Frag} {d : Addr} {o : Obj} {es : Array DictEntry} {ep : Nat} {vs : List V} (it : Addr) (hx : o.ExactDict) (hod : o.data = .dict es ep) (hz : Vals vs (es.toList.map (·.key))) :
    Turn P w K tg (ItR d o vs) [it] it (fun i h => h.IsKeyIter it d i es.size ep) where
  mem := by simp
  obj := fun i h st b hb => by
    obtain rfl := List.mem_singleton.mp hb
    obtain ⟨oi, e, c, dd⟩ := st
    exact ⟨oi, e, fun v z => by rw [dd] at z; cases z⟩
  keep := fun i h h' st k => st.at fun oi e => k it (by simp) oi e
  item := by
    rintro X rfl rfl rfl hc i pins s σ H E I hf st ⟨⟨u, hd⟩, hi⟩
    obtain ⟨f0, f1, f2, f3, f4, f5⟩ := hf it (by simp)
    have raw : s.heap.DictRaw d es ep := ⟨o, (I.hok d _ hd).1, hx, hod⟩
    have hn : es.size = vs.length := by rw [hz.length, List.length_map, Array.length_toList]
    obtain ⟨y, hy, ry⟩ := hz.get (List.getElem?_eq_getElem hi)
    have hi' : i < es.size := by omega
    have ey : es[i].key = y := by simpa [hi'] using hy
    refine wpAny_pyNext_keys_item_raw st raw hi' fun h' st' sb => ?_
    have I1 : Inv X pins σ H { s with heap := h' } := I.turned (t' := s.toks) (fun b ob hb e => (sb.2 b hb).trans e) f0 f1 f3 f4 f5
    obtain ⟨oi, e, c, dd⟩ := id st'
    exact ⟨_, rfl, go_of (s := { s with heap := h' }) e c dd (by decide) ⟨vs[i], H, I1, by rw [ey]; exact ry, ⟨rfl, List.getElem?_eq_getElem hi⟩, st', fun b hb => (hf b hb).1⟩⟩
  done := by
    rintro X rfl rfl rfl hc i pins s σ H E I hf st ⟨⟨u, hd⟩, hi⟩
    obtain ⟨f0, f1, f2, f3, f4, f5⟩ := hf it (by simp)
    have raw : s.heap.DictRaw d es ep := ⟨o, (I.hok d _ hd).1, hx, hod⟩
    have hn : es.size = vs.length := by rw [hz.length, List.length_map, Array.length_toList]
    exact wpAny_pyNext_keys_end_raw (I.ok.hd hc) st raw (by omega) fun h' eb => ⟨rfl, I.turned (t' := s.toks) (fun b ob hb e => eb b ob hb e) f0 f1 f3 f4 f5⟩
  self := fun A i s Q E st h => wpAny_pyIter_keyiter st h
theorem turnRV {P : Program} {w : World} {K : PySem.W.Frag} {d : Addr} {o : Obj} {es : Array DictEntry} {ep : Nat} {vs : List V} (it : Addr) (hx : o.ExactDict) (hod : o.data = .dict es ep) (hz : Vals vs (es.toList.map (·.val))) :
    Turn P w K tg (ItR d o vs) [it] it (fun i h => h.IsValIter it d i es.size ep) where
  mem := by simp
  obj := fun i h st b hb => by
    obtain rfl := List.mem_singleton.mp hb
    obtain ⟨oi, e, c, dd⟩ := st
    exact ⟨oi, e, fun v z => by rw [dd] at z; cases z⟩
  keep := fun i h h' st k => st.at fun oi e => k it (by simp) oi e
  item := by
    rintro X rfl rfl rfl hc i pins s σ H E I hf st ⟨⟨u, hd⟩, hi⟩
    obtain ⟨f0, f1, f2, f3, f4, f5⟩ := hf it (by simp)
    have raw : s.heap.DictRaw d es ep := ⟨o, (I.hok d _ hd).1, hx, hod⟩
    have hn : es.size = vs.length := by rw [hz.length, List.length_map, Array.length_toList]
    obtain ⟨y, hy, ry⟩ := hz.get (List.getElem?_eq_getElem hi)
    have hi' : i < es.size := by omega
    have ey : es[i].val = y := by simpa [hi'] using hy
    refine wpAny_pyNext_values_item_raw st raw hi' fun h' st' sb => ?_
    have I1 : Inv X pins σ H { s with heap := h' } := I.turned (t' := s.toks) (fun b ob hb e => (sb.2 b hb).trans e) f0 f1 f3 f4 f5
    obtain ⟨oi, e, c, dd⟩ := id st'
    exact ⟨_, rfl, go_of (s := { s with heap := h' }) e c dd (by decide) ⟨vs[i], H, I1, by rw [ey]; exact ry, ⟨rfl, List.getElem?_eq_getElem hi⟩, st', fun b hb => (hf b hb).1⟩⟩
  done := by
    rintro X rfl rfl rfl hc i pins s σ H E I hf st ⟨⟨u, hd⟩, hi⟩
    obtain ⟨f0, f1, f2, f3, f4, f5⟩ := hf it (by simp)
    have raw : s.heap.DictRaw d es ep := ⟨o, (I.hok d _ hd).1, hx, hod⟩
    have hn : es.size = vs.length := by rw [hz.length, List.length_map, Array.length_toList]
    exact wpAny_pyNext_values_end_raw (I.ok.hd hc) st raw (by omega) fun h' eb => ⟨rfl, I.turned (t' := s.toks) (fun b ob hb e => eb b ob hb e) f0 f1 f3 f4 f5⟩
  self := fun A i s Q E st h => wpAny_pyIter_valiter st h
theorem ItR.wk {B : Bs} {w : Wd} {d : Addr} {o : Obj} {u : HO} {xs : List U} {vs : List V} (hd : w.F d = some (.frz o u)) (r : RUs B w xs vs) : Wk B w (ItR d o vs) (xs.map fun x => .v x) := by
  have hl : (xs.map fun x => Itm.v x).length = vs.length := by rw [List.length_map]; exact Paired.length r
  refine ⟨fun w' H i l hs hi => ⟨⟨u, hs _ _ (l.sub _ _ hd)⟩, by omega⟩, fun w' H l hs => ⟨⟨u, hs _ _ (l.sub _ _ hd)⟩, by omega⟩, fun w' H i v H' l hs hi y => ?_⟩
  obtain ⟨rfl, y⟩ := y
  have lx : i < xs.length := by simpa using hi
  obtain ⟨b, hb, rb⟩ := pairGet r (List.getElem?_eq_getElem lx)
  rw [y] at hb
  cases hb
  exact ⟨.v xs[i], getAt (List.getElem?_eq_getElem lx), rfl, rb.mono l⟩
/-- the keys, the values of a frozen dict -/
def kysF (f : EvU) : EvI := fun st => (f st).bind fun p => match p.1 with
  | .fd kvs => some (kvs.map fun q => .v (.v q.1), p.2)
  | _ => none
def vlsF (f : EvU) : EvI := fun st => (f st).bind fun p => match p.1 with
  | .fd kvs => some (kvs.map fun q => .v q.2.u, p.2)
  | _ => none
theorem fd_frz {B : Bs} {w : Wd} {a : Addr} {kvs : List (PyData × Wv)} (h : RFd B w a kvs) : ∃ o u, w.F a = some (.frz o u) := by
  rcases h with ⟨o, ys, q, _⟩ | ⟨_, o, xs, q, _⟩
  · exact ⟨o, _, q⟩
  · exact ⟨o, _, q⟩
theorem i_kysF {f : EvU} (h : PE X e (tU (bsX X) f)) : PI X tg e (tI (bsX X) (kysF f)) := by
  refine ⟨fun pins s σ H R I ⟨w, st, its, st', sm, hf, q⟩ => ?_⟩
  unfold kysF at hf
  cases ea : f st with
  | none => rw [ea] at hf; cases hf
  | some p =>
    obtain ⟨x, st1⟩ := p
    rw [ea, Option.bind_some] at hf
    cases x with
    | fd kvs =>
      cases hf
      refine thn (h.run pins s σ H (fun v H1 => ∃ w1, Le w w1 ∧ Sim (bsX X) w1 σ H1 st1 ∧ RU (bsX X) w1 (.fd kvs) v) I ⟨w, st, _, st1, sm, ea, fun w1 v H1 l1 s1 r1 => ⟨w1, l1, s1, r1⟩⟩) ?_
      rintro u s1 ⟨v, H1, I1, r1, w1, l1, sm1, d, rfl, rd⟩
      cases r1
      obtain ⟨o, ho, hF⟩ := fd_frz rd
      have hd := sm1.h.sub _ _ hF
      obtain ⟨es, ep, ks, vs, en⟩ := ents_of I1 (rd.r sm1.h.sub)
      obtain ⟨o', g, hx, hdt⟩ := en.raw
      have go := (I1.hok d _ hd).1
      rw [go] at g
      cases g
      refine wpAny_pyIter_dict_raw en.sys en.raw (pi_one (tk := s1.toks) I1 _ (turnRK _ hx hdt en.kz) ⟨_, Heap.get?_push_size _ rfl, rfl, rfl⟩ (q w1 _ H1 l1 sm1 ?_))
      have := ItR.wk (B := bsX X) (o := o) hF (show RUs (bsX X) w1 ((Wv.kvs kvs).map fun p => .v p.1) ks by
        have := RpAll.us (B := bsX X) en.keys
        rwa [List.map_map] at this)
      rw [List.map_map, Wv.kvs, List.map_map] at this
      exact this
    | _ => cases hf
theorem i_vlsF {f : EvU} {apos cpos : Pos} (h : PE X e (tU (bsX X) f)) (hbase : attributeBase e "values" X.env (eval e X.env) = eval e X.env := by rfl) (hline : (apos.endLine == cpos.line) = true := by rfl) : PI X tg (.Call (.Attribute e "values" apos) [] [] cpos) (tI (bsX X) (vlsF f)) := by
  refine ⟨fun pins s σ H R I ⟨w, st, its, st', sm, hf, q⟩ => ?_⟩
  unfold vlsF at hf
  cases ea : f st with
  | none => rw [ea] at hf; cases hf
  | some p =>
    obtain ⟨x, st1⟩ := p
    rw [ea, Option.bind_some] at hf
    cases x with
    | fd kvs =>
      cases hf
      refine wpAny_Call_method (T := "dict") (id := "dict.values") hbase rfl hline F.plainAttrs_dict F.slot_dict_values F.type_dict_values (thn (h.run pins s σ H (fun v H1 => ∃ w1, Le w w1 ∧ Sim (bsX X) w1 σ H1 st1 ∧ RU (bsX X) w1 (.fd kvs) v) I ⟨w, st, _, st1, sm, ea, fun w1 v H1 l1 s1 r1 => ⟨w1, l1, s1, r1⟩⟩) ?_)
      rintro u s1 ⟨v, H1, I1, r1, w1, l1, sm1, d, rfl, rd⟩
      cases r1
      obtain ⟨o, ho, hF⟩ := fd_frz rd
      have hd := sm1.h.sub _ _ hF
      obtain ⟨es, ep, ks, vs, en⟩ := ents_of I1 (rd.r sm1.h.sub)
      obtain ⟨o', g, hx, hdt⟩ := en.raw
      have go := (I1.hok d _ hd).1
      rw [go] at g
      cases g
      refine ⟨en.raw.typeIs, fun o2 g2 => by cases g2; exact ⟨o, go, by first | exact hx.2 | exact hx.2.1⟩, ?_⟩
      have I2 : Inv X pins σ H1 { s1 with heap := s1.heap.push { cls := .type "dict_values", data := .fields #[.ref d] } } := I1.kept (t' := s1.toks) fun b ob q => Heap.get?_push_of_some _ q
      have raw2 : (s1.heap.push { cls := .type "dict_values", data := .fields #[.ref d] }).DictRaw d es ep := en.raw.at fun o e => Heap.get?_push_of_some _ e
      have fin : wpAny (model X.prog X.w) X.A (pyIter (.ref s1.heap.objs.size)) (PIE X pins σ tg R) X.xe { s1 with heap := s1.heap.push { cls := .type "dict_values", data := .fields #[.ref d] } } := by
        refine wpAny_pyIter_values_raw ⟨_, Heap.get?_push_size _ rfl, rfl, rfl⟩ raw2 (pi_one (tk := s1.toks) I2 _ (turnRV _ hx hdt en.vz) ⟨_, Heap.get?_push_size _ rfl, rfl, rfl⟩ (q w1 _ H1 l1 sm1 ?_))
        have := ItR.wk (B := bsX X) (o := o) hF en.vals
        rw [List.map_map, Wv.kvs, List.map_map] at this
        exact this
      show wpAny _ _ (callWith cpos (.builtin "dict.values") [.ref d] [] []) _ X.xe s1
      exact method_meetsIn F.slot_dict_values F.entry_dict_values rfl (PySem.evalArgs_none ⟨rfl, en.raw.typeIs, F.args_dict_values_1 _, _, meets_dict_values_raw d en.sys, ⟨es, ep, en.raw⟩, fin⟩)
    | _ => cases hf
end
end MP

namespace MP
open PySem PySem.Spec PyProof.Rows L2

/-! ## texts joined -/
def strsOf : List PyData → Option (List Str)
  | [] => some []
  | .str x :: r => (strsOf r).map (x :: ·)
  | _ => none
theorem strsOf_eq : ∀ {xs : List PyData} {ys : List Str}, strsOf xs = some ys → xs = ys.map .str
  | [], ys, h => by cases h; rfl
  | .str x :: r, ys, h => by
    unfold strsOf at h
    obtain ⟨z, e, rfl⟩ := Option.map_eq_some_iff.mp h
    rw [strsOf_eq e]
    rfl
  | .none :: _, _, h => by cases h
  | .bool _ :: _, _, h => by cases h
  | .int _ :: _, _, h => by cases h
  | .list _ :: _, _, h => by cases h
  | .tuple _ :: _, _, h => by cases h
  | .dict _ :: _, _, h => by cases h
theorem RpAll.strs {F : Hp} : ∀ {ys : List Str} {vs : List V}, RpAll F (ys.map .str) vs → vs = ys.map V.str
  | [], _, h => by cases h; rfl
  | y :: ys, _, h => by
    cases h with
    | cons r t =>
      cases r
      rw [RpAll.strs t]
      rfl
def kJoin : Sq → List U → Option U
  | .s a, [.v (.list ds)] => (strsOf ds).bind fun ys => if (ys.map (·.length)).sum + ys.length * a.length ≤ 16777216 then some (.v (.str (Txt.join a ys))) else none
  | _, _ => none
section
variable {X : Cx}
theorem km_join {k : Nat} (hr : Room k X.A) : KM X "join" kJoin := by
  refine ⟨fun c ys z h => ?_⟩
  unfold kJoin at h
  split at h
  · refine ⟨"str.join", PySem.F.plainAttrs_str, PySem.F.slot_str_join, PySem.F.type_str_join, ?_⟩
    rintro pins s σ H x xs v us Q I rx rxs ⟨w, c, ys, z, hc, hF, hS, hy, hk, q⟩
    refine mt_join pins s σ H x xs v us Q I rx rxs ?_
    unfold kJoin at hk
    split at hk
    · rename_i a ds
      cases e : strsOf ds with
      | none => rw [e] at hk; cases hk
      | some zs =>
        rw [e, Option.bind_some] at hk
        split at hk
        · next hl =>
          cases hk
          have ed := strsOf_eq e
          subst ed
          cases hy with
          | cons r t =>
            cases t
            cases (show Rp w.F _ _ from r) with
            | @lst p vs _ ex ra =>
              have := RpAll.strs ra
              subst this
              exact ⟨a, p, zs, hS, rfl, .inl (SqL.of (hF _ _ ex)), hl, q _ (.str _)⟩
        · cases hk
    · cases hk
  · cases h

/-! ## dict(a list of pairs) -/
def pairsD : List PyData → Option (List (PyData × U))
  | [] => some []
  | .tuple [k, v] :: r => (pairsD r).map ((k, .v v) :: ·)
  | _ => none
def kDictP : Sq → Option O
  | .l xs => (pairsD xs).bind fun ps => if ps.isEmpty then some (.od []) else if (ps.all fun p => isTup p.1 && (kf p.1).isSome) && lineOk ps.length then some (.od (putAll ps)) else none
  | _ => none
theorem pairs_at {w : Wd} {H : Hp} {s : Shared} {pins : List (Addr × Obj)} {σ : L2.St} (I : Inv X pins σ H s) (hF : ∀ a o, w.F a = some o → H a = some o) : ∀ {xs : List PyData} {vs : List V} {us : List Value} {ps : List (PyData × U)}, pairsD xs = some ps → RpAll w.F xs vs → Vals vs us →
    ∃ (ws : List (Value × Value)) (Ts : List Addr) (vvs : List (V × V)), us = Ts.map .ref ∧ ws.length = Ts.length ∧ (∀ (j : Nat) k v, ws[j]? = some (k, v) → ∃ T, Ts[j]? = some T ∧ PairAt s.heap T k v) ∧ Paired (PR (bsX X) w) ps vvs ∧ VV vvs ws
  | [], _, _, _, e, .nil, .nil => by
    cases e
    exact ⟨[], [], [], rfl, rfl, fun j k v h => by simp at h, .nil, .nil⟩
  | x :: xs, _, _, ps, e, .cons r t, .cons r2 t2 => by
    unfold pairsD at e
    split at e
    · next h => cases h
    · next k v rest h =>
      cases h
      obtain ⟨ps', e', rfl⟩ := Option.map_eq_some_iff.mp e
      obtain ⟨ws, Ts, vvs, h1, h2, h3, h4, h5⟩ := pairs_at I hF e' t t2
      cases r with
      | @tup T ob vv _ ex dn ra =>
        cases ra with
        | cons rk ra =>
          cases ra with
          | cons rw' ra =>
            cases ra
            cases r2
            obtain ⟨its, rv, ⟨o, ho, hc, n, hd⟩, _⟩ := I.tuple (.inl (.inr ⟨_, hF _ _ ex⟩))
            cases rv with
            | cons q1 rv =>
              cases rv with
              | cons q2 rv =>
                cases rv
                refine ⟨(_, _) :: ws, T :: Ts, (_, _) :: vvs, by rw [h1]; rfl, by rw [List.length_cons, List.length_cons, h2], fun j k v hj => ?_, .cons ⟨rk, rw'⟩ h4, .cons ⟨q1, q2⟩ h5⟩
                cases j with
                | zero =>
                  simp at hj
                  obtain ⟨rfl, rfl⟩ := hj
                  exact ⟨T, rfl, .inl ⟨o, ho, hc, n, hd⟩⟩
                | succ j => simpa using h3 j k v (by simpa using hj)
    · cases e
theorem carries_have {prog : Program} {w : World} {h : Heap} : ∀ {us : List (Value × Value)} {ys : List (NestedKey × Addr × Value)}, CarriesH (nestedKind prog w) h us ys →
    ∀ (i : Nat) key v, us[i]? = some (key, v) → ∃ k b, ys[i]? = some (k, b, v) ∧ key = .ref b
  | [], [], _, i, key, v, e => by simp at e
  | (key0, v0) :: us, (k, a, v') :: ys, c, i, key, v, e => by
    obtain ⟨c1, c2, c3, c4⟩ := c
    cases i with
    | zero =>
      simp at e
      obtain ⟨rfl, rfl⟩ := e
      exact ⟨k, a, by rw [c2]; rfl, c1⟩
    | succ i => simpa using carries_have c4 i key v (by simpa using e)
  | [], _ :: _, c, _, _, _, _ => c.elim
  | _ :: _, [], c, _, _, _, _ => c.elim
theorem carries_stay {prog : Program} {w : World} {h : Heap} : ∀ {us : List (Value × Value)} {ys : List (NestedKey × Addr × Value)}, CarriesH (nestedKind prog w) h us ys →
    ∀ {h' : Heap}, (∀ b o, h.get? b = some o → h'.get? b = some o) → ∀ x ∈ ys, (nestedKind prog w).is h' x.1 x.2.1
  | [], [], _, _, _, x, hx => absurd hx (by simp)
  | (key0, v0) :: us, (k, a, v') :: ys, c, h', hk, x, hx => by
    obtain ⟨c1, c2, c3, c4⟩ := c
    rcases List.mem_cons.mp hx with rfl | hx
    · exact nestedKind_stays.stays (fun a o vs n e _ => hk a o e) c3
    · exact carries_stay c4 hk x hx
  | [], _ :: _, c, _, _, _, _ => c.elim
  | _ :: _, [], c, _, _, _, _ => c.elim
def rDictP (X : Cx) : List V → Hp → VK → Prop := fun vs H Q => ∃ (a : Addr) (w : Wd) (xs : List PyData) (us : List V) (ps : List (PyData × U)), vs = [.ref a] ∧ (∀ a o, w.F a = some o → H a = some o) ∧ SqL X.K H a us ∧ RpAll w.F xs us ∧ pairsD xs = some ps ∧
  (ps.all fun p => isTup p.1 && (kf p.1).isSome) = true ∧ ∀ l o, H l = none → RDict (bsX X) w (upd H l o) l (putAll ps) → Q (.ref l) (upd H l o)
theorem cr_dictP {k : Nat} (hr : Room k X.A) : CallR X (.type "dict") (rDictP X) := by
  rintro pins s σ H zs us0 Q I r ⟨a, w, xs, us, ps, rfl, hF, hS, hR, hp, hall, q⟩
  obtain ⟨u, rfl, rx⟩ := vals1 r
  cases rx
  obtain ⟨its, rv, pl, hz⟩ := I.list hS
  obtain ⟨ws, Ts, vvs, e1, e2, e3, e4, e5⟩ := pairs_at I hF hp hR rv
  obtain ⟨ys, cy, tt⟩ := tup_all I hF e4 e5 hall
  have ly : ys.length = ws.length := cy.length
  have lw : ws.length ≤ sizeLine := by
    have : its.length = Ts.length := by rw [e1, List.length_map]
    rw [e2, ← this, ← rv.length]
    exact hz
  have pi : PairItems s.heap its.toArray (fun j => Ts.getD j 0) ws := by
    refine ⟨by rw [List.size_toArray, e1, List.length_map, e2], fun j k v hj => ?_⟩
    obtain ⟨T, hT, pa⟩ := e3 j k v hj
    have : Ts.getD j 0 = T := by rw [List.getD_eq_getElem?_getD, hT]; rfl
    show its.toArray[j]? = some (Value.ref (Ts.getD j 0)) ∧ PairAt s.heap (Ts.getD j 0) k v
    rw [this]
    refine ⟨?_, pa⟩
    rw [e1, List.getElem?_toArray, List.getElem?_map, hT]
    rfl
  have hsys : (s.heap.objs.size == sysModules) = false := by
    have := I.big
    exact beq_false_of_ne (Nat.ne_of_gt this)
  have un := hr.un
  by_cases hne : ps = []
  · subst hne
    cases e4
    cases e5
    refine call_dict_pairs (knd := mixKind X.prog X.w) (kvs := []) (PairArg.list a its.toArray (fun j => Ts.getD j 0) []) hr.hd ⟨pl, pi⟩ ⟨rfl, fun i key v h => by cases (show ([] : List (Value × Value))[i]? = some (key, v) from h)⟩ lw fun h' tk dd kp => ?_
    have kp' : ∀ b o, s.heap.get? b = some o → h'.get? b = some o := fun b o e => kp b o (by simp) e
    have hn := I.hok.fresh (Nat.le_refl s.heap.objs.size)
    exact ⟨.ref s.heap.objs.size, _, I.laid (t' := tk) kp' (Nat.le_refl _) (show ObjOk X.prog X.w (upd H s.heap.objs.size (.dK [])) h' s.heap.objs.size (.dK []) from ⟨Nat.zero_le _, hsys, [], .nil, dd⟩), rfl, q _ _ hn (.inl ⟨[], upd_same, .nil⟩)⟩
  refine call_dict_pairsH (knd := nestedKind X.prog X.w) (ps := ys) (PairArg.list a its.toArray (fun j => Ts.getD j 0) ws) hr.hd (by show X.A.in1.in1.units + 8 < cLine; show X.A.units + 1 + 1 + 8 < cLine; omega) ⟨pl, pi⟩ ⟨ly, fun i key v h => carries_have cy i key v h⟩ (fun h' hk x hx => carries_stay cy (fun b o e => hk b o (Nat.ne_of_lt (Heap.lt_size e)) (by simp) e) x hx) lw fun h' tk dd kp => ?_
  · have pa := tt_all tt (.nil : Paired (TT (bsX X) w) [] [])
    have hz' : (storedAllH [] ys).length ≤ sizeLine := by
      have h1 := MP.storedAllH_le ys []
      rw [List.length_nil] at h1
      omega
    obtain ⟨xs', ok, pp⟩ := d_close (H' := upd H s.heap.objs.size (dHO X.prog X.w s.heap.objs.size [])) dd pa hsys hz'
    obtain ⟨xs', ok, pp⟩ := d_close (H' := upd H s.heap.objs.size (dHO X.prog X.w s.heap.objs.size xs')) dd pa hsys hz'
    have hn := I.hok.fresh (Nat.le_refl s.heap.objs.size)
    have kp' : ∀ b o, s.heap.get? b = some o → h'.get? b = some o := fun b o e => kp b o (by simp) e
    exact ⟨.ref s.heap.objs.size, _, I.laid (t' := tk) kp' (Nat.le_refl _) ok, rfl, q _ _ hn (.inr ⟨putAll_ne hne, xs', upd_same, pp⟩)⟩
theorem e_dictP {e : Expr} {p pos : Pos} {f : EvR} {k : Nat} (hr : Room k X.A) (hg : Gl X "dict") (hm : X.mg "dict" = none) (ha : PE X e (tR (bsX X) f)) (he : starEach [e] X.env = (false, eval e X.env) :: starEach [] X.env := by rfl) : PE X (.Call (.Name "dict" p) [e] [] pos) (tE (bsX X) (b1 kDictP f)) := by
  refine e_ty1 (cr_dictP hr) (fun c o hk w σ H st v Q s r q => ?_) hg hm (by decide +kernel) ha (he := he)
  unfold kDictP at hk
  split at hk
  · rename_i xs
    obtain ⟨a, us, rfl, hS, hR⟩ := r
    cases hp : pairsD xs with
    | none => rw [hp] at hk; cases hk
    | some ps =>
      rw [hp, Option.bind_some] at hk
      have fin : ∀ l u, H l = none → RDict (bsX X) w (upd H l u) l (putAll ps) → o = .od (putAll ps) → Q (.ref l) (upd H l u) := by
        rintro l u hl rd rfl
        obtain ⟨le, sm⟩ := s.putNew hl (tg := .tmp) (o := u) trivial (fun i z => by cases z) (fun u z => by cases z)
        exact q _ _ _ le sm ⟨l, rfl, Wd.set_same, rd.mono le rfl⟩
      split at hk
      · next h0 =>
        cases hk
        have : ps = [] := by simpa using h0
        subst this
        exact ⟨a, w, xs, us, [], rfl, s.h.sub, hS, hR, hp, rfl, fun l u hl rd => fin l u hl rd rfl⟩
      · split at hk
        · next h1 =>
          cases hk
          exact ⟨a, w, xs, us, ps, rfl, s.h.sub, hS, hR, hp, (Bool.and_eq_true_iff.mp h1).1, fun l u hl rd => fin l u hl rd rfl⟩
        · cases hk
  · cases hk
end
end MP

namespace MP
open PySem PySem.Spec PyProof.Rows L2

/-! ## str of a number -/
def kStr : List U → Option O
  | [.v (.int i)] => if decide (i.natAbs.log2 < 1920) then some (.u (.v (.str (toString i)))) else none
  | _ => none
section
variable {X : Cx} {e : Expr} {pos : Pos}
theorem e_str' {p : Pos} {g : EvL} (hg : Gl X "str") (hm : X.mg "str" = none) (ha : PA X [e] (tL (bsX X) g)) (he : starEach [e] X.env = (false, eval e X.env) :: starEach [] X.env := by rfl) : PE X (.Call (.Name "str" p) [e] [] pos) (tE (bsX X) (bl kStr g)) := by
  refine e_ty call_str_int (fun xs o hk w σ H st vs Q s r q => ?_) hg hm (by decide +kernel) ha (he := he)
  unfold kStr at hk
  split at hk
  · split at hk
    · next h =>
      cases hk
      cases r with
      | cons r t =>
        cases t
        cases (show Rp w.F _ _ from r)
        exact ⟨_, rfl, of_decide_eq_true h, q.u s (.str _)⟩
    · cases hk
  · cases hk
end
end MP

namespace MP
open PySem PySem.Spec PyProof.Rows L2

/-! ## a, b = x, y where a name is a cell: by way of a tuple -/
section
variable {X : Cx} {pos : Pos}
theorem s_parC {B : Bs} {i j : Nat} {x y : Str} {a b : Expr} {g : EvH} {px py pt : Pos} {kt k2 : Nat} {pt2 : Pos} (hc : X.calm = true) (hN : X.N.Nodup) (hi : X.N[i]? = some x) (hj : X.N[j]? = some y) (hij : i ≠ j)
    (hx : Loc X.env.scope x) (hy : Loc X.env.scope y) (ha : PA X [a, b] (tH B g))
    (hs : swapsWithSole [.Tuple [.Name x px, .Name y py] kt pt] (.Tuple [a, b] k2 pt2) pos.line X.env = pure false := by rfl) (hw : swappedStores [.Tuple [.Name x px, .Name y py] kt pt] (.Tuple [a, b] k2 pt2) X.env = pure none := by rfl)
    (h1 : (assignEach [.Tuple [.Name x px, .Name y py] kt pt] X.env).map (·.2) = [assign (.Tuple [.Name x px, .Name y py] kt pt) X.env] := by rfl)
    (h2 : (assignEach [.Name x px, .Name y py] X.env).map (·.2) = assign (.Name x px) X.env :: (assignEach [.Name y py] X.env).map (·.2) := by rfl) (h3 : (assignEach [.Name y py] X.env).map (·.2) = assign (.Name y py) X.env :: (assignEach [] X.env).map (·.2) := by rfl)
    (h4 : (assignEach [.Name x px, .Name y py] X.env).length = 2 := by rfl) (h5 : (assignEach [.Name x px, .Name y py] X.env).findIdx? (·.1) = none := by rfl)
    (fx : X.fn x = true ∨ X.env.scope.names.lookup x = some .local := by first | exact .inl rfl | exact .inr rfl) (fy : X.fn y = true ∨ X.env.scope.names.lookup y = some .local := by first | exact .inl rfl | exact .inr rfl) :
    PS X (.Assign [.Tuple [.Name x px, .Name y py] kt pt] (.Tuple [a, b] k2 pt2) pos) (tS B (sPar i j g)) :=
  psW (ps_asg (pe_tup ha) (pg_tup hc (pgs_cons (pg_name hN hi hx fx) (pgs_cons (pg_name hN hj hy fy) pgs_nil h3) h2) h4 h5) hs hw h1) fun D σ H ⟨w, st, fl, st', s, hf, q⟩ => by
    unfold sPar at hf
    split at hf
    · rename_i he
      cases ea : g st with
      | none => rw [ea] at hf; cases hf
      | some st2 =>
        rw [ea, Option.bind_some] at hf
        refine ⟨w, st, st2, s, ea, fun w1 vs H1 l1 s1 => ?_⟩
        have h0 : w.hv = [] := by
          have := s.r.lenH
          rw [List.isEmpty_iff.mp he] at this
          exact List.length_eq_zero_iff.mp this.symm
        split at hf
        · rename_i a b eh
          split at hf
          · rename_i hlt
            cases hf
            have hv1 : w1.hv = vs := by rw [l1.hv, h0]; rfl
            have hl := s1.r.lenH
            rw [eh, hv1] at hl
            obtain ⟨v1, v2, rfl⟩ : ∃ v1 v2, vs = [v1, v2] := by
              match vs, hl with
              | [v1, v2], _ => exact ⟨v1, v2, rfl⟩
            refine ⟨by rw [line_eq]; show 2 ≤ _; decide, fun T hT => ?_⟩
            have sT := s1.newNo hT (o := .tup [v1, v2])
            have b1 : i < σ.length := by rw [← s1.r.len]; exact hlt.1
            have b2 : j < σ.length := by rw [← s1.r.len]; exact hlt.2
            obtain ⟨w2, k2, l2, s2⟩ := sT.unhold (h := [a]) (o := b) (hv := [v1]) (v := v2) (i := j) eh hv1 b2
            obtain ⟨w3, k3, l3, s3⟩ := s2.unhold (h := []) (o := a) (hv := []) (v := v1) (i := i) rfl k2 (by simpa using b1)
            refine ⟨T, [v1, v2], rfl, .inl (.inl upd_same), rfl, v1, [v2], rfl, v2, [], rfl, rfl, ?_⟩
            have s3 : Sim B w3 ((σ.set j (some v2)).set i (some v1)) (upd H1 T (.tup [v1, v2])) { r := (st2.r.set j (some b)).set i (some a), S := st2.S, h := [] } := s3
            rw [List.set_comm _ _ (Ne.symm hij), List.set_comm _ _ (Ne.symm hij)] at s3
            exact q w3 _ _ ((l1.lx.trans (l2.trans l3)).le (k3.trans h0.symm)) s3
          · cases hf
        · cases hf
    · cases hf
end
end MP

namespace Sh
open PySem MP
def o_primes_0_bit_table {α : Type} : List α → List α → List α
  | [], [b0, b1] => [b1, b0]
  | _, _ => []
theorem o_primes_0_bit_table_rel {α β : Type} {R : α → β → Prop} {as : List α} {bs : List β} {cs : List α} {ds : List β} (tu0 : Paired R as bs) (tw0 : Paired R cs ds) : Paired R (o_primes_0_bit_table as cs) (o_primes_0_bit_table bs ds) := by
  cases tu0 with
  | cons _ _ => exact .nil
  | nil =>
    cases tw0 with
    | nil => exact .nil
    | cons pw0 tw1 =>
      cases tw1 with
      | nil => exact .nil
      | cons pw1 tw2 =>
        cases tw2 with
        | cons _ _ => exact .nil
        | nil =>
          exact .cons pw1 (.cons pw0 (.nil))

def o_needed_0_bit_table {α : Type} : List α → List α → List α
  | [], [b0, b1] => [b1, b0]
  | _, _ => []
theorem o_needed_0_bit_table_rel {α β : Type} {R : α → β → Prop} {as : List α} {bs : List β} {cs : List α} {ds : List β} (tu0 : Paired R as bs) (tw0 : Paired R cs ds) : Paired R (o_needed_0_bit_table as cs) (o_needed_0_bit_table bs ds) := by
  cases tu0 with
  | cons _ _ => exact .nil
  | nil =>
    cases tw0 with
    | nil => exact .nil
    | cons pw0 tw1 =>
      cases tw1 with
      | nil => exact .nil
      | cons pw1 tw2 =>
        cases tw2 with
        | cons _ _ => exact .nil
        | nil =>
          exact .cons pw1 (.cons pw0 (.nil))

def o_sure_on_0_half_table {α : Type} : List α → List α → List α
  | [], [b0, b1] => [b1, b0]
  | _, _ => []
theorem o_sure_on_0_half_table_rel {α β : Type} {R : α → β → Prop} {as : List α} {bs : List β} {cs : List α} {ds : List β} (tu0 : Paired R as bs) (tw0 : Paired R cs ds) : Paired R (o_sure_on_0_half_table as cs) (o_sure_on_0_half_table bs ds) := by
  cases tu0 with
  | cons _ _ => exact .nil
  | nil =>
    cases tw0 with
    | nil => exact .nil
    | cons pw0 tw1 =>
      cases tw1 with
      | nil => exact .nil
      | cons pw1 tw2 =>
        cases tw2 with
        | cons _ _ => exact .nil
        | nil =>
          exact .cons pw1 (.cons pw0 (.nil))

def o_lie_together_0_other_one_table {α : Type} : List α → List α → List α
  | [], [b0, b1, b2] => [b2, b1, b0]
  | _, _ => []
theorem o_lie_together_0_other_one_table_rel {α β : Type} {R : α → β → Prop} {as : List α} {bs : List β} {cs : List α} {ds : List β} (tu0 : Paired R as bs) (tw0 : Paired R cs ds) : Paired R (o_lie_together_0_other_one_table as cs) (o_lie_together_0_other_one_table bs ds) := by
  cases tu0 with
  | cons _ _ => exact .nil
  | nil =>
    cases tw0 with
    | nil => exact .nil
    | cons pw0 tw1 =>
      cases tw1 with
      | nil => exact .nil
      | cons pw1 tw2 =>
        cases tw2 with
        | nil => exact .nil
        | cons pw2 tw3 =>
          cases tw3 with
          | cons _ _ => exact .nil
          | nil =>
            exact .cons pw2 (.cons pw1 (.cons pw0 (.nil)))

noncomputable def B_places_of : EvS := seq (sSet 1 (up (kst (.int 1)))) (seq (sWhile (tst (bin iLt (bin iShl (kst (.int 1)) (nm 1)) (fz (b1 kLen (rN 0))))) (sSet 1 (up (bin gAdd (nm 1) (kst (.int 1)))))) (sRet (own 1)))
noncomputable def F_places_of : FnS := runF 2 B_places_of
noncomputable def B_number_of : EvS := seq (sSet 1 (up (kst (.int 0)))) (seq (sFor (vals (nm 0)) (onV (gN 2)) (sSet 1 (up (bin gAdd (bin gMul (kst (.int 2)) (nm 1)) (nm 2))))) (sRet (own 1)))
noncomputable def F_number_of : FnS := runF 3 B_number_of
noncomputable def B_value_at : EvS := sRet (up (idx (rN 0) (fz (cal 1 F_number_of (aCons (nm 1) (aNil))))))
noncomputable def F_value_at : FnS := runF 2 B_value_at
noncomputable def B_rows_filling : EvS := seq (sSet 1 (lstF (aCons (tupF (aNil)) (aNil)))) (seq (sFor (vals (nm 0)) (onV (gN 2)) (sIf (tst (bin gIs (nm 2) (kst .none))) (sSet 1 (up (bin gAdd (fz (lc (vals (nm 1)) (onV (gN 3)) (yes) (bin gAdd (nm 3) (tupF (aCons (kst (.int 0)) (aNil)))) [3])) (fz (lc (vals (nm 1)) (onV (gN 3)) (yes) (bin gAdd (nm 3) (tupF (aCons (kst (.int 1)) (aNil)))) [3]))))) (sSet 1 (lc (vals (nm 1)) (onV (gN 3)) (yes) (bin gAdd (nm 3) (tupF (aCons (nm 2) (aNil)))) [3])))) (sRet (b1 kTuple (rU (fz (b1 kSorted (rN 1)))))))
noncomputable def F_rows_filling : FnS := runF 4 B_rows_filling
noncomputable def B_half_text : EvS := sRet (up (mth kJoin (rU (kst (.str ""))) (aCons (fz (lc (vals (nm 0)) (onV (gN 1)) (yes) (fz (ifO (tst (bin gIs (nm 1) (kst .none))) (up (kst (.str "-"))) (bl kStr (aCons (nm 1) (aNil))))) [1])) (aNil))))
noncomputable def F_half_text : FnS := runF 2 B_half_text
noncomputable def B_halves : EvS := seq (sSet 1 (lstF (aCons (tupF (aNil)) (aNil)))) (seq (sFor (rg1 (nm 0)) (onV (gN 2)) (seq (sSet 3 (lstF (aNil))) (seq (sFor (vals (nm 1)) (onV (gN 4)) (sDo (up (lmt kExtend (rN 3) (aCons (fz (lstF (aCons (bin gAdd (nm 4) (tupF (aCons (kst .none) (aNil)))) (aCons (bin gAdd (nm 4) (tupF (aCons (kst (.int 0)) (aNil)))) (aCons (bin gAdd (nm 4) (tupF (aCons (kst (.int 1)) (aNil)))) (aNil)))))) (aNil)))))) (sSet 1 (up (nm 3)))))) (sRet (own 1)))
noncomputable def F_halves : FnS := runF 5 B_halves
noncomputable def B_sure_on : EvS := seq (sSet 2 (lc (vals (fz (cal 1 F_rows_filling (aCons (nm 1) (aNil))))) (onV (gN 3)) (yes) (fz (cal 2 F_value_at (aCons (nm 0) (aCons (nm 3) (aNil))))) [3])) (sRet (ifO (tst (eqR false (rU (mth kCount (rN 2) (aCons (idx (rN 2) (kst (.int 0))) (aNil)))) (rU (fz (b1 kLen (rN 2)))))) (up (idx (rN 2) (kst (.int 0)))) (up (kst .none))))
noncomputable def F_sure_on : FnS := runF 4 B_sure_on
noncomputable def B_with_item : EvS := sRet (up (bin gAdd (bin gAdd (fz (slc (rN 0) (pNo) (pAt (nm 1)))) (tupF (aCons (nm 2) (aNil)))) (fz (slc (rN 0) (pAt (bin gAdd (nm 1) (kst (.int 1)))) (pNo)))))
noncomputable def F_with_item : FnS := runF 3 B_with_item
noncomputable def B_free_in : EvS := sRet (up (mth kCount (rN 0) (aCons (kst .none) (aNil))))
noncomputable def F_free_in : FnS := runF 1 B_free_in
noncomputable def B_sure_values : EvS := seq (sSet 1 (dnew)) (seq (sFor (vals (fz (srtBy F_free_in (rU (fz (cal 1 F_halves (aCons (fz (cal 1 F_places_of (aCons (nm 0) (aNil)))) (aNil)))))))) (onV (gN 2)) (sIf (tst (isIn true (kst .none) (rN 2))) (sAsg (fz (cal 2 F_value_at (aCons (nm 0) (aCons (nm 2) (aNil))))) (gS (rN 1) (nm 2))) (seq (sSet 3 (up (mth kIndex (rN 2) (aCons (kst .none) (aNil))))) (seq (sPar 4 5 (hCons (up (idx (rN 1) (fz (cal 3 F_with_item (aCons (nm 2) (aCons (nm 3) (aCons (kst (.int 0)) (aNil)))))))) (hCons (up (idx (rN 1) (fz (cal 3 F_with_item (aCons (nm 2) (aCons (nm 3) (aCons (kst (.int 1)) (aNil)))))))) (hNil)))) (sAsg (ifU (tst (eqR false (rN 4) (rN 5))) (nm 4) (kst .none)) (gS (rN 1) (nm 2))))))) (sRet (own 1)))
noncomputable def F_sure_values : FnS := runF 6 B_sure_values
noncomputable def B_primes : EvS := seq (sPar 2 3 (hCons (cal 1 F_sure_values (aCons (nm 0) (aNil))) (hCons (lstF (aNil)) (hNil)))) (seq (sFor (vals (fz (cal 1 F_halves (aCons (fz (cal 1 F_places_of (aCons (nm 0) (aNil)))) (aNil))))) (onV (gN 4)) (sIf (tst (eqR false (rU (idx (rN 2) (nm 4))) (rN 1))) (seq (sSet 5 (lc (enum (nm 4)) (onT 2 (gCo (gN 6) (gCo (gN 7) (gNo)))) (tst (bin gIsNot (nm 7) (kst .none))) (fz (cal 3 F_with_item (aCons (nm 4) (aCons (nm 6) (aCons (kst .none) (aNil)))))) [6, 7])) (sIf (notT (tru (fz (b1 kAny (rU (fz (lc (vals (nm 5)) (onV (gN 8)) (yes) (eqR false (rU (idx (rN 2) (nm 8))) (rN 1)) [8]))))))) (sDo (up (lmt kAppend (rN 3) (aCons (nm 4) (aNil))))) (sNil))) (sNil))) (sRet (b1 kTuple (rN 3))))
noncomputable def F_primes : FnS := runF 9 B_primes
noncomputable def B_needed : EvS := seq (sSet 2 (dnew)) (seq (sFor (vals (fz (cal 2 F_primes (aCons (nm 0) (aCons (nm 1) (aNil)))))) (onV (gN 3)) (sFor (vals (fz (cal 1 F_rows_filling (aCons (nm 3) (aNil))))) (onV (gN 4)) (sDo (up (lmt kAppend (rU (sdf (rN 2) (aCons (nm 4) (aCons (pm (lstF (aNil))) (aNil))))) (aCons (nm 3) (aNil))))))) (seq (sSet 5 (b1 kDictP (rU (fz (lc (vlsF (nmF 2)) (onV (gN 6)) (tst (eqR false (rU (fz (b1 kLen (rN 6)))) (rU (kst (.int 1))))) (tupF (aCons (idx (rN 6) (kst (.int 0))) (aCons (kst (.bool true)) (aNil)))) [6]))))) (sRet (b1 kTuple (rU (fz (srtBy F_half_text (rN 5))))))))
noncomputable def F_needed : FnS := runF 7 B_needed
noncomputable def B_lie_together : EvS := sRet (up (bin gIsNot (fz (cal 2 F_sure_on (aCons (nm 0) (aCons (fz (b1 kTuple (rU (fz (lc (zipI (nm 1) (nm 2)) (onT 2 (gCo (gN 3) (gCo (gN 4) (gNo)))) (yes) (ifU (tst (eqR false (rN 3) (rN 4))) (nm 3) (kst .none)) [3, 4]))))) (aNil))))) (kst .none)))
noncomputable def F_lie_together : FnS := runF 5 B_lie_together
noncomputable def B__law_mill : EvS := seq (sSet 2 (lstF (aNil))) (seq (sFor (vals (fz (slc (rN 0) (pNo) (pAt (kst (.int 60)))))) (onV (gN 3)) (seq (sSet 4 (up (bin gAdd (bin gMul (kst (.int 2)) (fz (bl kAbs (aCons (nm 3) (aNil))))) (fz (bl kInt (aCons (bin iLt (nm 3) (kst (.int 0))) (aNil))))))) (seq (sSet 1 (up (bin iMod (fz (bl kInt (aCons (bin gAdd (bin gAdd (bin gMul (nm 1) (kst (.int 48271))) (nm 4)) (kst (.int 7))) (aNil)))) (kst (.int 4294967291))))) (sIf (tst (bin iGe (nm 4) (bin iPow (kst (.int 10)) (kst (.int 16))))) (sDo (up (lmt kAppend (rN 2) (aCons (nm 4) (aNil))))) (sNil))))) (sRet (dspF [(kst (.str "deep"), nmP 2), (kst (.str "seal"), bin gAdd (nm 1) (fz (b1 kLen (rU (fz (slc (rN 0) (pNo) (pAt (kst (.int 60))))))))), (kst (.str "turn"), kst (.int 0))])))
noncomputable def F__law_mill : FnS := runF 5 B__law_mill
noncomputable def B__law_take : EvS := seq (sIf (tst (bin iLt (nm 1) (kst (.int 2)))) (sRet (up (kst (.int 0)))) (sNil)) (seq (sIf (tst (eqR true (rU (idx (rN 0) (kst (.str "deep")))) (rU (fz (lstF (aNil)))))) (seq (sSet 2 (up (lmt kPopAt (rU (idx (rN 0) (kst (.str "deep")))) (aCons (kst (.int 0)) (aNil))))) (seq (sIf (tst (bin iGe (nm 2) (nm 1))) (sDo (up (lmt kInsert (rU (idx (rN 0) (kst (.str "deep")))) (aCons (kst (.int 0)) (aCons (bin iDiv (nm 2) (nm 1)) (aNil)))))) (sNil)) (sRet (up (bin iMod (fz (bl kInt (aCons (nm 2) (aNil)))) (nm 1)))))) (sNil)) (seq (sAsg (bin gAdd (idx (rN 0) (kst (.str "turn"))) (kst (.int 1))) (gS (rN 0) (kst (.str "turn")))) (seq (sSet 3 (up (bin iMod (fz (bl kInt (aCons (bin gAdd (bin gAdd (bin gMul (idx (rN 0) (kst (.str "seal"))) (kst (.int 69621))) (bin gMul (idx (rN 0) (kst (.str "turn"))) (kst (.int 40503)))) (kst (.int 17))) (aNil)))) (kst (.int 4294967279))))) (seq (sSet 3 (up (bin iMod (fz (bl kInt (aCons (bin gAdd (bin gMul (nm 3) (nm 3)) (idx (rN 0) (kst (.str "seal")))) (aNil)))) (kst (.int 4294967231))))) (seq (sSet 3 (up (bin iMod (fz (bl kInt (aCons (bin gAdd (bin gMul (nm 3) (kst (.int 48271))) (bin gMul (idx (rN 0) (kst (.str "turn"))) (kst (.int 2654435)))) (aNil)))) (kst (.int 4294967197))))) (sRet (up (bin iMod (fz (bl kInt (aCons (bin iDiv (nm 3) (kst (.int 32))) (aNil)))) (nm 1)))))))))
noncomputable def F__law_take : FnS := runF 4 B__law_take
noncomputable def B__law_one : EvS := sRet (up (idx (rN 1) (fz (cal 2 F__law_take (aCons (nm 0) (aCons (fz (b1 kLen (rN 1))) (aNil)))))))
noncomputable def F__law_one : FnS := runF 2 B__law_one
noncomputable def B__law_mixed : EvS := seq (sPar 2 3 (hCons (b1 kList (rN 1)) (hCons (lstF (aNil)) (hNil)))) (seq (sWhile (tst (eqR true (rN 2) (rU (fz (lstF (aNil)))))) (sDo (up (lmt kAppend (rN 3) (aCons (lmt kPopAt (rN 2) (aCons (fz (cal 2 F__law_take (aCons (nm 0) (aCons (fz (b1 kLen (rN 2))) (aNil))))) (aNil))) (aNil)))))) (sRet (own 3)))
noncomputable def F__law_mixed : FnS := runF 4 B__law_mixed
noncomputable def B__law_rows : EvS := seq (sSet 1 (lstF (aCons (tupF (aNil)) (aNil)))) (seq (sFor (rg1 (nm 0)) (onV (gN 2)) (seq (sSet 3 (lstF (aNil))) (seq (sFor (vals (nm 1)) (onV (gN 4)) (sDo (up (lmt kExtend (rN 3) (aCons (fz (lstF (aCons (bin gAdd (nm 4) (tupF (aCons (kst (.int 0)) (aNil)))) (aCons (bin gAdd (nm 4) (tupF (aCons (kst (.int 1)) (aNil)))) (aNil))))) (aNil)))))) (sSet 1 (b1 kList (rN 3)))))) (sRet (own 1)))
noncomputable def F__law_rows : FnS := runF 5 B__law_rows
noncomputable def B__law_number : EvS := seq (sSet 1 (up (kst (.int 0)))) (seq (sFor (vals (nm 0)) (onV (gN 2)) (sSet 1 (up (bin gAdd (bin gMul (kst (.int 2)) (nm 1)) (nm 2))))) (sRet (own 1)))
noncomputable def F__law_number : FnS := runF 3 B__law_number
noncomputable def B__law_places : EvS := seq (sAsg (tupF (aCons (kst (.int 0)) (aCons (kst (.int 1)) (aNil)))) (gT 2 (gCo (gN 1) (gCo (gN 2) (gNo))))) (seq (sWhile (tst (bin iLt (nm 2) (fz (b1 kLen (rN 0))))) (sPar 1 2 (hCons (up (bin gAdd (nm 1) (kst (.int 1)))) (hCons (up (bin gMul (kst (.int 2)) (nm 2))) (hNil))))) (sRet (own 1)))
noncomputable def F__law_places : FnS := runF 3 B__law_places
noncomputable def B__law_halves : EvS := seq (sSet 1 (lstF (aCons (tupF (aNil)) (aNil)))) (seq (sFor (rg1 (nm 0)) (onV (gN 2)) (seq (sSet 3 (lstF (aNil))) (seq (sFor (vals (nm 1)) (onV (gN 4)) (sDo (up (lmt kExtend (rN 3) (aCons (fz (lstF (aCons (bin gAdd (nm 4) (tupF (aCons (kst .none) (aNil)))) (aCons (bin gAdd (nm 4) (tupF (aCons (kst (.int 0)) (aNil)))) (aCons (bin gAdd (nm 4) (tupF (aCons (kst (.int 1)) (aNil)))) (aNil)))))) (aNil)))))) (sSet 1 (b1 kList (rN 3)))))) (sRet (own 1)))
noncomputable def F__law_halves : FnS := runF 5 B__law_halves
noncomputable def B__law_with : EvS := sRet (up (bin gAdd (bin gAdd (fz (slc (rN 0) (pNo) (pAt (nm 1)))) (tupF (aCons (nm 2) (aNil)))) (fz (slc (rN 0) (pAt (bin gAdd (nm 1) (kst (.int 1)))) (pNo)))))
noncomputable def F__law_with : FnS := runF 3 B__law_with
noncomputable def B__law_sure : EvS := seq (sSet 1 (dnew)) (seq (sFor (vals (fz (rev (rU (fz (cal 1 F__law_halves (aCons (fz (cal 1 F__law_places (aCons (nm 0) (aNil)))) (aNil)))))))) (onV (gN 2)) (sIf (tst (isIn false (kst .none) (rN 2))) (seq (sSet 3 (up (mth kIndex (rN 2) (aCons (kst .none) (aNil))))) (seq (sPar 4 5 (hCons (up (idx (rN 1) (fz (cal 3 F__law_with (aCons (nm 2) (aCons (nm 3) (aCons (kst (.int 0)) (aNil)))))))) (hCons (up (idx (rN 1) (fz (cal 3 F__law_with (aCons (nm 2) (aCons (nm 3) (aCons (kst (.int 1)) (aNil)))))))) (hNil)))) (sAsg (ifU (tst (eqR false (rN 4) (rN 5))) (nm 4) (kst .none)) (gS (rN 1) (nm 2))))) (sAsg (idx (rN 0) (fz (cal 1 F__law_number (aCons (nm 2) (aNil))))) (gS (rN 1) (nm 2))))) (sRet (own 1)))
noncomputable def F__law_sure : FnS := runF 6 B__law_sure
noncomputable def B__law_known : EvS := seq (sIf (orT (andT (tst (eqR false (rN 0) (rU (kst (.str "halves"))))) (tst (eqR false (rU (bin iMod (fz (bl kInt (aCons (nm 1) (aNil)))) (kst (.int 2)))) (rU (kst (.int 1)))))) (andT (tst (eqR false (rN 0) (rU (kst (.str "most"))))) (tst (eqR false (rU (bin iMod (fz (bl kInt (aCons (nm 1) (aNil)))) (kst (.int 2)))) (rU (kst (.int 0))))))) (sRet (up (kst .none))) (sNil)) (seq (sIf (andT (tst (eqR false (rN 0) (rU (kst (.str "pick"))))) (tst (isIn true (nm 1) (rU (tupF (aCons (kst (.int 3)) (aCons (kst (.int 6)) (aNil)))))))) (sRet (up (kst .none))) (sNil)) (seq (sSet 2 (lstF (aNil))) (seq (sFor (vals (fz (cal 1 F__law_rows (aCons (nm 1) (aNil))))) (onV (gN 3)) (seq (sAsg (tupF (aCons (fz (b1 kSum (rN 3))) (aCons (bin iDiv (nm 1) (kst (.int 2))) (aNil)))) (gT 2 (gCo (gN 4) (gCo (gN 5) (gNo))))) (seq (sIf (tst (eqR false (rN 0) (rU (kst (.str "halves"))))) (sSet 6 (b1 kAny (rU (fz (lc (rg1 (nm 5)) (onV (gN 7)) (yes) (eqR false (rU (bin gAdd (idx (rN 3) (nm 7)) (idx (rN 3) (bin gAdd (nm 5) (nm 7))))) (rU (kst (.int 2)))) [7]))))) (sIf (tst (eqR false (rN 0) (rU (kst (.str "pick"))))) (sSet 6 (up (eqR false (rU (idx (rN 3) (bin gAdd (ifU (tst (eqR false (rN 1) (rU (kst (.int 3))))) (kst (.int 1)) (kst (.int 2))) (fz (cal 1 F__law_number (aCons (fz (slc (rN 3) (pNo) (pAt (ifU (tst (eqR false (rN 1) (rU (kst (.int 3))))) (kst (.int 1)) (kst (.int 2)))))) (aNil))))))) (rU (kst (.int 1)))))) (sIf (tst (eqR false (rN 0) (rU (kst (.str "rise"))))) (sSet 6 (up (orU (eqR false (rU (fz (b1 kList (rN 3)))) (rU (fz (b1 kSorted (rN 3))))) (eqR false (rU (fz (b1 kList (rN 3)))) (rU (fz (rev (rU (fz (b1 kSorted (rN 3))))))))))) (seq (sSet 8 (dspF [(kst (.str "all"), eqR false (rN 4) (rN 1)), (kst (.str "any"), bin iGt (nm 4) (kst (.int 0))), (kst (.str "first"), eqR false (rU (idx (rN 3) (kst (.int 0)))) (rU (kst (.int 1)))), (kst (.str "most"), bin iGt (bin gMul (kst (.int 2)) (nm 4)) (nm 1))])) (sSet 6 (up (mth kGet (rN 8) (aCons (nm 0) (aCons (eqR false (rU (bin iMod (fz (bl kInt (aCons (nm 4) (aNil)))) (kst (.int 2)))) (rU (kst (.int 1)))) (aNil)))))))))) (sDo (up (lmt kAppend (rN 2) (aCons (fz (bl kInt (aCons (nm 6) (aNil)))) (aNil)))))))) (sRet (b1 kTuple (rN 2))))))
noncomputable def F__law_known : FnS := runF 9 B__law_known
noncomputable def B__law_is_above : EvS := sRet (b1 kAll (rU (fz (lc (zipI (nm 0) (nm 1)) (onT 2 (gCo (gN 2) (gCo (gN 3) (gNo)))) (yes) (bin iGe (nm 2) (nm 3)) [2, 3]))))
noncomputable def F__law_is_above : FnS := runF 4 B__law_is_above
noncomputable def B__law_table : EvS := seq (sAsg (tupF (aCons (fz (cal 2 F__law_take (aCons (nm 0) (aCons (kst (.int 7)) (aNil))))) (aCons (fz (cal 1 F__law_rows (aCons (nm 1) (aNil)))) (aNil)))) (gT 2 (gCo (gN 2) (gCo (gN 3) (gNo))))) (seq (sSet 4 (lstF (aCons (kst (.str "all")) (aCons (kst (.str "any")) (aCons (kst (.str "first")) (aCons (kst (.str "halves")) (aCons (kst (.str "most")) (aCons (kst (.str "odd")) (aCons (kst (.str "pick")) (aCons (kst (.str "rise")) (aNil))))))))))) (seq (sSet 5 (cal 2 F__law_known (aCons (fz (cal 2 F__law_one (aCons (nm 0) (aCons (nm 4) (aNil))))) (aCons (nm 1) (aNil))))) (seq (sIf (orT (tst (eqR false (rN 2) (rU (kst (.int 0))))) (tst (bin gIs (nm 5) (kst .none)))) (sSet 5 (b1 kTuple (rU (fz (lc (vals (nm 3)) (onV (gN 6)) (yes) (fz (cal 2 F__law_take (aCons (nm 0) (aCons (kst (.int 2)) (aNil))))) [6]))))) (sIf (tst (eqR false (rN 2) (rU (kst (.int 1))))) (sSet 5 (up (bin gMul (tupF (aCons (fz (cal 2 F__law_take (aCons (nm 0) (aCons (kst (.int 2)) (aNil))))) (aNil))) (fz (b1 kLen (rN 3)))))) (sIf (tst (eqR false (rN 2) (rU (kst (.int 2))))) (seq (sSet 7 (slc (rU (fz (cal 2 F__law_mixed (aCons (nm 0) (aCons (fz (lrg1 (nm 1))) (aNil)))))) (pNo) (pAt (bin gAdd (kst (.int 1)) (fz (cal 2 F__law_take (aCons (nm 0) (aCons (nm 1) (aNil))))))))) (seq (sSet 8 (dnew)) (seq (sFor (vals (nm 3)) (onV (gN 6)) (sDo (up (sdf (rN 8) (aCons (fz (b1 kTuple (rU (fz (lc (vals (nm 7)) (onV (gN 9)) (yes) (idx (rN 6) (nm 9)) [9]))))) (aCons (fz (cal 2 F__law_take (aCons (nm 0) (aCons (kst (.int 2)) (aNil))))) (aNil))))))) (sSet 5 (b1 kTuple (rU (fz (lc (vals (nm 3)) (onV (gN 6)) (yes) (idx (rN 8) (fz (b1 kTuple (rU (fz (lc (vals (nm 7)) (onV (gN 9)) (yes) (idx (rN 6) (nm 9)) [9])))))) [6])))))))) (sIf (tst (eqR false (rN 2) (rU (kst (.int 3))))) (seq (sSet 10 (lc (rg1 (bin gAdd (kst (.int 1)) (fz (cal 2 F__law_take (aCons (nm 0) (aCons (kst (.int 3)) (aNil))))))) (onV (gN 11)) (yes) (fz (cal 2 F__law_one (aCons (nm 0) (aCons (nm 3) (aNil))))) [11])) (sSet 5 (b1 kTuple (rU (fz (lc (vals (nm 3)) (onV (gN 6)) (yes) (fz (bl kInt (aCons (fz (b1 kAny (rU (fz (lc (vals (nm 10)) (onV (gN 12)) (yes) (fz (cal 2 F__law_is_above (aCons (nm 6) (aCons (nm 12) (aNil))))) [12]))))) (aNil)))) [6])))))) (sNil))))) (seq (sIf (tst (eqR false (rU (fz (cal 2 F__law_take (aCons (nm 0) (aCons (kst (.int 3)) (aNil)))))) (rU (kst (.int 0))))) (seq (sSet 13 (cal 2 F__law_take (aCons (nm 0) (aCons (fz (b1 kLen (rN 5))) (aNil))))) (sSet 5 (cal 3 F__law_with (aCons (nm 5) (aCons (nm 13) (aCons (bin iSub (kst (.int 1)) (idx (rN 5) (nm 13))) (aNil))))))) (sNil)) (sRet (ifO (tst (eqR false (rU (fz (cal 2 F__law_take (aCons (nm 0) (aCons (kst (.int 5)) (aNil)))))) (rU (kst (.int 0))))) (b1 kTuple (rU (fz (lc (vals (nm 5)) (onV (gN 14)) (yes) (bin iSub (kst (.int 1)) (nm 14)) [14])))) (own 5)))))))
noncomputable def F__law_table : FnS := runF 15 B__law_table
noncomputable def B__law_same : EvS := sRet (up (eqR false (rU (fz (bl kRepr (aCons (nm 0) (aNil))))) (rU (fz (bl kRepr (aCons (nm 1) (aNil)))))))
noncomputable def F__law_same : FnS := runF 2 B__law_same
noncomputable def B__law_filling : EvS := seq (sSet 1 (lstF (aCons (kst (.int 0)) (aNil)))) (seq (sFor (vals (nm 0)) (onV (gN 2)) (seq (sSet 3 (ifO (tst (bin gIs (nm 2) (kst .none))) (lstF (aCons (kst (.int 0)) (aCons (kst (.int 1)) (aNil)))) (lstF (aCons (nm 2) (aNil))))) (seq (sSet 4 (lstF (aNil))) (seq (sFor (vals (nm 1)) (onV (gN 5)) (sDo (up (lmt kExtend (rN 4) (aCons (fz (lc (vals (nm 3)) (onV (gN 6)) (yes) (bin gAdd (bin gMul (kst (.int 2)) (nm 5)) (nm 6)) [6])) (aNil)))))) (sSet 1 (b1 kList (rN 4))))))) (sRet (own 1)))
noncomputable def F__law_filling : FnS := runF 7 B__law_filling
noncomputable def B__law_primes : EvS := seq (sSet 3 (lstF (aNil))) (seq (sFor (vals (fz (cal 1 F__law_halves (aCons (fz (cal 1 F__law_places (aCons (nm 0) (aNil)))) (aNil))))) (onV (gN 4)) (sIf (tst (eqR false (rU (idx (rN 2) (nm 4))) (rN 1))) (seq (sSet 5 (lc (enum (nm 4)) (onT 2 (gCo (gN 6) (gCo (gN 7) (gNo)))) (tst (bin gIsNot (nm 7) (kst .none))) (fz (cal 3 F__law_with (aCons (nm 4) (aCons (nm 6) (aCons (kst .none) (aNil)))))) [6, 7])) (sIf (notT (tru (fz (b1 kAny (rU (fz (lc (vals (nm 5)) (onV (gN 8)) (yes) (eqR false (rU (idx (rN 2) (nm 8))) (rN 1)) [8]))))))) (sDo (up (lmt kAppend (rN 3) (aCons (nm 4) (aNil))))) (sNil))) (sNil))) (sRet (own 3)))
noncomputable def F__law_primes : FnS := runF 9 B__law_primes
noncomputable def B__law_together : EvS := sRet (up (bin gIsNot (idx (rN 0) (fz (b1 kTuple (rU (fz (lc (zipI (nm 1) (nm 2)) (onT 2 (gCo (gN 3) (gCo (gN 4) (gNo)))) (yes) (ifU (tst (eqR false (rN 3) (rN 4))) (nm 3) (kst .none)) [3, 4])))))) (kst .none)))
noncomputable def F__law_together : FnS := runF 5 B__law_together
noncomputable def B__law_needed : EvS := seq (sPar 1 2 (hCons (dnew) (hCons (lstF (aNil)) (hNil)))) (seq (sFor (vals (nm 0)) (onV (gN 3)) (sFor (vals (fz (cal 1 F__law_filling (aCons (nm 3) (aNil))))) (onV (gN 4)) (sAsg (bin gAdd (mth kGet (rN 1) (aCons (nm 4) (aCons (kst (.int 0)) (aNil)))) (kst (.int 1))) (gS (rN 1) (nm 4))))) (seq (sFor (vals (nm 0)) (onV (gN 3)) (sIf (tru (fz (b1 kAny (rU (fz (lc (vals (fz (cal 1 F__law_filling (aCons (nm 3) (aNil))))) (onV (gN 4)) (yes) (eqR false (rU (idx (rN 1) (nm 4))) (rU (kst (.int 1)))) [4])))))) (sDo (up (lmt kAppend (rN 2) (aCons (nm 3) (aNil))))) (sNil))) (sRet (b1 kTuple (rN 2)))))
noncomputable def F__law_needed : FnS := runF 5 B__law_needed
noncomputable def B__law_are_primes_right : EvS := seq (sFor (vals (tupF (aCons (kst (.int 0)) (aCons (kst (.int 1)) (aNil))))) (onV (gN 3)) (seq (sSet 4 (b1 kTuple (rU (fz (cal 3 F__law_primes (aCons (nm 0) (aCons (nm 3) (aCons (nm 1) (aNil))))))))) (seq (sSet 5 (lstF (aCons (fz (cal 2 F_primes (aCons (nm 0) (aCons (nm 3) (aNil))))) (aCons (fz (cal 2 F_needed (aCons (nm 0) (aCons (nm 3) (aNil))))) (aNil))))) (seq (sIf (tru (nm 2)) (sSet 5 (lstF (aCons (fz (cal 2 F_primes (ord o_primes_0_bit_table (aNil) (aCons (nm 3) (aCons (nm 0) (aNil)))))) (aCons (fz (cal 2 F_needed (ord o_needed_0_bit_table (aNil) (aCons (nm 3) (aCons (nm 0) (aNil)))))) (aNil))))) (sNil)) (sIf (notT (tru (fz (cal 2 F__law_same (aCons (nm 5) (aCons (fz (lstF (aCons (nm 4) (aCons (fz (cal 1 F__law_needed (aCons (nm 4) (aNil)))) (aNil))))) (aNil))))))) (sRet (up (kst (.bool false)))) (sNil)))))) (sRet (up (kst (.bool true))))
noncomputable def F__law_are_primes_right : FnS := runF 6 B__law_are_primes_right
noncomputable def B__law_are_halves_right : EvS := seq (sPar 4 5 (hCons (b1 kListD (rN 2)) (hCons (cal 1 F__law_rows (aCons (fz (cal 1 F__law_places (aCons (nm 1) (aNil)))) (aNil))) (hNil)))) (seq (sFor (rg1 (nm 3)) (onV (gN 6)) (seq (sPar3 7 8 9 (hCons (cal 2 F__law_one (aCons (nm 0) (aCons (nm 4) (aNil)))) (hCons (cal 2 F__law_one (aCons (nm 0) (aCons (nm 5) (aNil)))) (hCons (cal 2 F__law_one (aCons (nm 0) (aCons (nm 5) (aNil)))) (hNil))))) (seq (sSet 10 (lstF (aCons (fz (cal 2 F_sure_on (aCons (nm 1) (aCons (nm 7) (aNil))))) (aCons (fz (cal 3 F_lie_together (aCons (nm 1) (aCons (nm 8) (aCons (nm 9) (aNil)))))) (aNil))))) (seq (sIf (tst (eqR false (rN 6) (rU (kst (.int 1))))) (sSet 10 (lstF (aCons (fz (cal 2 F_sure_on (ord o_sure_on_0_half_table (aNil) (aCons (nm 7) (aCons (nm 1) (aNil)))))) (aCons (fz (cal 3 F_lie_together (ord o_lie_together_0_other_one_table (aNil) (aCons (nm 9) (aCons (nm 8) (aCons (nm 1) (aNil))))))) (aNil))))) (sNil)) (seq (sDo (up (lmt kAppend (rN 10) (aCons (fz (cal 3 F_lie_together (aCons (nm 1) (aCons (nm 9) (aCons (nm 8) (aNil)))))) (aNil))))) (seq (sSet 11 (cal 3 F__law_together (aCons (nm 2) (aCons (nm 8) (aCons (nm 9) (aNil)))))) (sIf (notT (tru (fz (cal 2 F__law_same (aCons (nm 10) (aCons (fz (lstF (aCons (idx (rN 2) (nm 7)) (aCons (nm 11) (aCons (nm 11) (aNil)))))) (aNil))))))) (sRet (up (kst (.bool false)))) (sNil)))))))) (sRet (up (kst (.bool true)))))
noncomputable def F__law_are_halves_right : FnS := runF 12 B__law_are_halves_right
noncomputable def B_law_v7 : EvS := seq (sSet 1 (cal 2 F__law_mill (aCons (nm 0) (aCons (kst (.int 16282)) (aNil))))) (seq (sIf (tst (eqR false (rU (fz (cal 2 F__law_take (aCons (nm 1) (aCons (kst (.int 10)) (aNil)))))) (rU (kst (.int 0))))) (seq (sSet 2 (cal 2 F__law_table (aCons (nm 1) (aCons (kst (.int 5)) (aNil))))) (seq (sPar 3 4 (hCons (cal 1 F__law_sure (aCons (nm 2) (aNil))) (hCons (cal 2 F__law_take (aCons (nm 1) (aCons (kst (.int 2)) (aNil)))) (hNil)))) (sRet (cal 2 F__law_same (aCons (fz (cal 2 F_primes (aCons (nm 2) (aCons (nm 4) (aNil))))) (aCons (fz (b1 kTuple (rU (fz (cal 3 F__law_primes (aCons (nm 2) (aCons (nm 4) (aCons (nm 3) (aNil))))))))) (aNil))))))) (sNil)) (seq (sFor (rg1 (kst (.int 3))) (onV (gN 5)) (seq (sSet 2 (cal 2 F__law_table (aCons (nm 1) (aCons (fz (cal 2 F__law_one (aCons (nm 1) (aCons (fz (lstF (aCons (kst (.int 1)) (aCons (kst (.int 2)) (aCons (kst (.int 3)) (aCons (kst (.int 3)) (aCons (kst (.int 4)) (aNil)))))))) (aNil))))) (aNil))))) (seq (sPar 3 6 (hCons (cal 1 F__law_sure (aCons (nm 2) (aNil))) (hCons (bl kRepr (aCons (nm 2) (aNil))) (hNil)))) (seq (sIf (notT (tru (fz (cal 3 F__law_are_primes_right (aCons (nm 2) (aCons (nm 3) (aCons (eqR false (rN 5) (rU (kst (.int 1)))) (aNil)))))))) (sRet (up (kst (.bool false)))) (sNil)) (sIf (orT (notT (tru (fz (cal 4 F__law_are_halves_right (aCons (nm 1) (aCons (nm 2) (aCons (nm 3) (aCons (kst (.int 8)) (aNil))))))))) (tst (eqR true (rU (fz (bl kRepr (aCons (nm 2) (aNil))))) (rN 6)))) (sRet (up (kst (.bool false)))) (sNil)))))) (sRet (up (kst (.bool true))))))
noncomputable def F_law_v7 : FnS := runF 7 B_law_v7
end Sh

namespace Sp
open PySem MP Sh

abbrev tI (xs : List Int) : PyData := .tuple (xs.map .int)
abbrev eI (x : Int) : PyData := .int x
/-- a row's number -/
def num (row : List Int) : Int := row.foldl (fun n b => 2 * n + b) 0
theorem number_of (row : List Int) (S : List Cell) : F_number_of [.v (tI row)] S = some (.u (.v (.int (num row))), S) := by
  unfold F_number_of B_number_of
  rw [q_run]
  obtain ⟨o, e⟩ := loopV (i := 2) (b := sSet 1 (up (bin gAdd (bin gMul (kst (.int 2)) (nm 1)) (nm 2)))) PyData.int (fun (n : Int) o => ⟨[slU (tI row), slU (.int n), o], S, []⟩) (fun n b => 2 * n + b) (fun _ _ _ => by simp) row 0 none (fun _ _ _ _ => by simp)
  simp [e, num, Function.comp_def]
theorem law_number (row : List Int) (S : List Cell) : F__law_number [.v (tI row)] S = some (.u (.v (.int (num row))), S) := number_of row S
theorem places_of {ds : List PyData} {m : Nat} (hl : ds.length = 2 ^ m) (h1 : 1 ≤ m) (hm : m ≤ 1000) (S : List Cell) : F_places_of [.v (.tuple ds)] S = some (.u (.v (.int m)), S) := by
  unfold F_places_of B_places_of
  rw [q_run]
  have shl : ∀ n : Nat, n ≤ 1000 → iShl (.v (.int 1)) (.v (.int n)) = some (.v (.int ((2 ^ n : Nat) : Int))) := fun n hn => by
    rw [q_shl (by omega) (by omega) (by decide)]
    simp
  have loop : ∀ k : Nat, k < m → ∀ n, m = n + k → 1 ≤ n → sWhile (tst (bin iLt (bin iShl (kst (.int 1)) (nm 1)) (fz (b1 kLen (rN 0))))) (sSet 1 (up (bin gAdd (nm 1) (kst (.int 1))))) ⟨[slU (.tuple ds), slU (.int n)], S, []⟩ = some (.nx, ⟨[slU (.tuple ds), slU (.int m)], S, []⟩) := by
    intro k
    induction k with
    | zero =>
      intro _ n e _
      have e : n = m := by omega
      subst e
      exact sWhile_end (by simp [shl n hm, hl])
    | succ k ih =>
      intro hk n e hn
      have lt : (2 ^ n : Nat) < 2 ^ m := Nat.pow_lt_pow_right (by decide) (by omega)
      refine sWhile_step (st1 := ⟨[slU (.tuple ds), slU (.int n)], S, []⟩) (st2 := ⟨[slU (.tuple ds), slU (.int ((n + 1 : Nat) : Int))], S, []⟩) ?_ (by simp) (ih (by omega) (n + 1) (by omega) (by omega))
      have lt' : ((2 ^ n : Nat) : Int) < ((2 ^ m : Nat) : Int) := by omega
      simp [shl n (by omega), hl]
      simpa using lt'
  have := loop (m - 1) (by omega) 1 (by omega) (by omega)
  have := this
  simp only [Int.natCast_one] at this
  simp [this]
/-- all rows -/
def rows : Nat → List (List Int)
  | 0 => [[]]
  | n + 1 => (rows n).flatMap fun r => [r ++ [0], r ++ [1]]
theorem rows_len : ∀ n, (rows n).length = 2 ^ n
  | 0 => rfl
  | n + 1 => by
    have : ∀ l : List (List Int), (l.flatMap fun r => [r ++ [0], r ++ [1]]).length = 2 * l.length := fun l => by
      induction l with
      | nil => rfl
      | cons a l ih => simp [ih]; omega
    rw [rows, this, rows_len n]
    omega
theorem rows_mem : ∀ n, ∀ r ∈ rows n, r.length = n
  | 0, r, h => by simp [rows] at h; simp [h]
  | n + 1, r, h => by
    simp only [rows, List.mem_flatMap] at h
    obtain ⟨a, h1, h2⟩ := h
    have := rows_mem n a h1
    simp at h2
    rcases h2 with rfl | rfl <;> simp [this]
theorem two_pow_le {n m : Nat} (h : n ≤ m) : 2 ^ n ≤ 2 ^ m := Nat.pow_le_pow_right (by decide) h
theorem rows_le {n : Nat} (h : n ≤ 20) : (rows n).length ≤ 1048576 := by
  rw [rows_len]
  exact two_pow_le h
def splitR (r : List Int) : List (List Int) := [r ++ [0], r ++ [1]]
theorem flat2 {α β : Type} (f : α → List β) (h : ∀ a, (f a).length = 2) : ∀ l : List α, (l.flatMap f).length = 2 * l.length
  | [] => rfl
  | a :: l => by
    rw [List.flatMap_cons, List.length_append, h, flat2 f h l, List.length_cons]
    omega
theorem pre_le {α : Type} {l pre post : List α} {x : α} (e : l = pre ++ x :: post) : pre.length < l.length := by
  rw [e, List.length_append, List.length_cons]
  omega
theorem law_rows {many : Nat} (hm : many ≤ 19) (S : List Cell) : F__law_rows [.v (.int many)] S = some (.ol ((rows many).map tI), S) := by
  unfold F__law_rows B__law_rows
  rw [q_run]
  have outer := loopI (α := Nat) (b := seq (sSet 3 (lstF aNil)) (seq (sFor (vals (nm 1)) (onV (gN 4)) (sDo (up (lmt kExtend (rN 3) (aCons (fz (lstF (aCons (bin gAdd (nm 4) (tupF (aCons (kst (.int 0)) aNil))) (aCons (bin gAdd (nm 4) (tupF (aCons (kst (.int 1)) aNil))) aNil)))) aNil))))) (sSet 1 (b1 kList (rN 3)))))
    (fun i => .v (.v (.int (i : Nat)))) (fun pre st => ∃ a b c : Option O, st = ⟨[slU (.int many), some (.ol ((rows pre.length).map tI)), a, b, c], S, []⟩) (g := onV (gN 2)) (List.range many) ⟨[slU (.int many), some (.ol [.tuple []]), none, none, none], S, []⟩ ⟨_, _, _, rfl⟩ (by
      rintro pre i post st e ⟨a, b, c, rfl⟩
      have hp : pre.length < many := by
        have := pre_le e
        rwa [List.length_range] at this
      have big := rows_le (show pre.length ≤ 20 by omega)
      have inner := loopI (α := List Int) (b := sDo (up (lmt kExtend (rN 3) (aCons (fz (lstF (aCons (bin gAdd (nm 4) (tupF (aCons (kst (.int 0)) aNil))) (aCons (bin gAdd (nm 4) (tupF (aCons (kst (.int 1)) aNil))) aNil)))) aNil))))
        (fun r => .v (.v (tI r))) (fun p st => ∃ (acc : List (List Int)) (o : Option O), acc = p.flatMap splitR ∧ st = ⟨[slU (.int many), slU (.list ((rows pre.length).map tI)), slU (.int i), some (.ol (acc.map tI)), o], S, []⟩) (g := onV (gN 4)) (rows pre.length) ⟨[slU (.int many), slU (.list ((rows pre.length).map tI)), slU (.int i), some (.ol []), c], S, []⟩ ⟨[], _, rfl, rfl⟩ (by
          rintro p r q st e2 ⟨acc, o, ha, rfl⟩
          have l1 : r.length = pre.length := rows_mem _ r (by rw [e2]; simp)
          have l2 : acc.length = 2 * p.length := by rw [ha, flat2 splitR fun _ => rfl]
          have l3 := pre_le e2
          refine ⟨_, ⟨[slU (.int many), slU (.list ((rows pre.length).map tI)), slU (.int i), some (.ol ((acc ++ splitR r).map tI)), slU (tI r)], S, []⟩, rfl, .inl ?_, _, _, ?_, rfl⟩
          · simp [splitR, l1, l2, lineOk_of (show 1 ≤ 16777216 by omega), lineOk_of (show pre.length + 1 ≤ 16777216 by omega), lineOk_of (show 2 ≤ 16777216 by omega), lineOk_of (show 2 * p.length + 2 ≤ 16777216 by omega)]
          · rw [ha, List.flatMap_append]
            simp)
      obtain ⟨st', e3, acc, o, ha, rfl⟩ := inner
      refine ⟨_, ⟨[slU (.int many), some (.ol ((rows (pre ++ [i]).length).map tI)), slU (.int i), some (.ol (acc.map tI)), o], S, []⟩, rfl, .inl ?_, _, _, _, rfl⟩
      have hr : rows (pre.length + 1) = acc := by rw [ha]; rfl
      simp [Function.comp_def, e3, hr, kList, lineOk_of (show 0 ≤ 16777216 by omega)])
  obtain ⟨st', e, a, b, c, rfl⟩ := outer
  rw [List.length_range] at e
  have r1 : rg1 (nm 0) ⟨[slU (.int many), some (.ol [.tuple []]), none, none, none], S, []⟩ = some (rgN many, ⟨[slU (.int many), some (.ol [.tuple []]), none, none, none], S, []⟩) := q_rg1n (by simp) (by omega)
  have e : fLoop (onV (gN 2)) _ (rgN many) _ = _ := e
  simp [lineOk_of (show 0 ≤ 16777216 by omega), lineOk_of (show 1 ≤ 16777216 by omega), r1, e]
theorem law_places {ds : List PyData} {m : Nat} (hl : ds.length = 2 ^ m) (hm : m ≤ 1000) (S : List Cell) : F__law_places [.v (.tuple ds)] S = some (.u (.v (.int m)), S) := by
  unfold F__law_places B__law_places
  rw [q_run]
  have loop : ∀ k n : Nat, m = n + k → sWhile (tst (bin iLt (nm 2) (fz (b1 kLen (rN 0))))) (sPar 1 2 (hCons (up (bin gAdd (nm 1) (kst (.int 1)))) (hCons (up (bin gMul (kst (.int 2)) (nm 2))) (hNil)))) ⟨[slU (.tuple ds), slU (.int n), slU (.int ((2 ^ n : Nat) : Int))], S, []⟩ = some (.nx, ⟨[slU (.tuple ds), slU (.int m), slU (.int ((2 ^ m : Nat) : Int))], S, []⟩) := by
    intro k
    induction k with
    | zero =>
      intro n e
      have e : n = m := by omega
      subst e
      exact sWhile_end (by simp [hl])
    | succ k ih =>
      intro n e
      have lt : (2 ^ n : Nat) < 2 ^ m := Nat.pow_lt_pow_right (by decide) (by omega)
      have lt' : ((2 ^ n : Nat) : Int) < ((2 ^ m : Nat) : Int) := by omega
      refine sWhile_step (st1 := ⟨[slU (.tuple ds), slU (.int n), slU (.int ((2 ^ n : Nat) : Int))], S, []⟩) (st2 := ⟨[slU (.tuple ds), slU (.int ((n + 1 : Nat) : Int)), slU (.int ((2 ^ (n + 1) : Nat) : Int))], S, []⟩) ?_ ?_ (ih (n + 1) (by omega))
      · simp [hl]
        simpa using lt'
      · have e2 : (2 : Int) * 2 ^ n = 2 ^ (n + 1) := by rw [Int.pow_succ]; omega
        simp [e2]
  have := loop m 0 (by omega)
  simp at this
  simp [this, lineOk_of (show 2 ≤ 16777216 by omega)]
/-! slices -/
theorem cut_to {α : List PyData} {p : Nat} (h : p ≤ α.length) : cutP α none (some (p : Int)) = α.take p := by
  unfold cutP
  rw [HT.sIx_none, HT.sIx_nat, Nat.min_eq_left h]
  simp
theorem cut_from {α : List PyData} {p : Nat} (h : p ≤ α.length) : cutP α (some (p : Int)) none = α.drop p := by
  unfold cutP
  rw [HT.sIx_none, HT.sIx_nat, Nat.min_eq_left h]
  rw [List.take_of_length_le (by rw [List.length_drop]; omega)]
@[simp] theorem q_slL {r : List (Option O)} {S : List Cell} {h : List O} {i : Nat} {xs : List PyData} {lo hi : Option Int} (e : (look ⟨r, S, h⟩ (.sl i)) = some (.l xs)) : gSl ⟨r, S, h⟩ (.sl i) lo hi = some (.ol (cutP xs lo hi)) := by
  unfold gSl
  rw [e]
@[simp] theorem q_gSl {st : Stt} {x : Hn} {lo hi : Option Int} : gSl st x lo hi = match look st x with
  | some (.l xs) => some (.ol (cutP xs lo hi))
  | some (.t xs) => some (.u (.v (.tuple (cutP xs lo hi))))
  | _ => none := rfl
theorem law_with {ds : List PyData} {p : Nat} {x : PyData} (hp : p < ds.length) (hl : ds.length ≤ 1000000) (S : List Cell) : F__law_with [.v (.tuple ds), .v (.int p), .v x] S = some (.u (.v (.tuple (ds.set p x))), S) := by
  unfold F__law_with B__law_with
  rw [q_run]
  have e1 := cut_to (show p ≤ ds.length by omega)
  have e2 := cut_from (show p + 1 ≤ ds.length by omega)
  have e3 : ds.take p ++ x :: ds.drop (p + 1) = ds.set p x := by
    rw [List.set_eq_take_append_cons_drop, if_pos hp]
  simp only [Int.natCast_add, Int.natCast_one] at e2
  simp [e1, e2, e3, lineOk_of (show 1 ≤ 16777216 by omega), lineOk_of (show min p ds.length + 1 ≤ 16777216 by omega), lineOk_of (show min p ds.length + 1 + (ds.length - (p + 1)) ≤ 16777216 by omega)]
theorem q_all {st : Stt} {r : EvR} {st1 : Stt} {h : Hn} {bs : List Bool} (e : r st = some (h, st1)) (e2 : look st1 h = some (.l (bs.map .bool))) : b1 kAll r st = some (.u (.v (.bool (bs.all id))), st1) := by
  rw [q_b1, e, Option.bind_some, e2, Option.bind_some]
  unfold kAll
  simp [boolsOf_map]
theorem q_any {st : Stt} {r : EvR} {st1 : Stt} {h : Hn} {bs : List Bool} (e : r st = some (h, st1)) (e2 : look st1 h = some (.l (bs.map .bool))) : b1 kAny r st = some (.u (.v (.bool (bs.any id))), st1) := by
  rw [q_b1, e, Option.bind_some, e2, Option.bind_some]
  unfold kAny
  simp [boolsOf_map]
/-- row is above other, place by place -/
def above (row other : List Int) : Bool := (row.zip other).all fun p => decide (p.2 ≤ p.1)
theorem law_is_above {row other : List Int} (hl : row.length ≤ 1000) (S : List Cell) : F__law_is_above [.v (tI row), .v (tI other)] S = some (.u (.v (.bool (above row other))), S) := by
  refine run_ret [slU (tI row), slU (tI other), none, none] rfl ?_
  have e := lcP1 (i := 2) (j := 3) (r0 := [slU (tI row), slU (tI other), none, none]) (S := S) (h := []) (st := ⟨[slU (tI row), slU (tI other), none, none], S, []⟩) (f := zipI (nm 0) (nm 1)) (e := bin iGe (nm 2) (nm 3)) (fun p : Int × Int => .int p.1) (fun p => .int p.2) (fun p => .bool (decide (p.2 ≤ p.1))) (row.zip other)
    (by simp [zpI_map]) (by simp) (by simp) (by decide) (fun x _ h => by simp) (by rw [List.length_zip]; omega)
  have e2 := boolsOf_map ((row.zip other).map fun p => decide (p.2 ≤ p.1))
  rw [List.map_map] at e2
  simp only [Function.comp_def] at e2
  simp [B__law_is_above, e, keepU, kAll, e2, above]
/-! ### halves -/
def eO : Option Int → PyData
  | none => .none
  | some i => .int i
abbrev tO (h : List (Option Int)) : PyData := .tuple (h.map eO)
def split3 (h : List (Option Int)) : List (List (Option Int)) := [h ++ [none], h ++ [some 0], h ++ [some 1]]
def halvesL : Nat → List (List (Option Int))
  | 0 => [[]]
  | n + 1 => (halvesL n).flatMap split3
theorem flat3 {α β : Type} (f : α → List β) (h : ∀ a, (f a).length = 3) : ∀ l : List α, (l.flatMap f).length = 3 * l.length
  | [] => rfl
  | a :: l => by
    rw [List.flatMap_cons, List.length_append, h, flat3 f h l, List.length_cons]
    omega
theorem halves_len : ∀ n, (halvesL n).length = 3 ^ n
  | 0 => rfl
  | n + 1 => by
    rw [halvesL, flat3 split3 fun _ => rfl, halves_len n, Nat.pow_succ]
    omega
theorem halves_le {n : Nat} (h : n ≤ 10) : (halvesL n).length ≤ 59049 := by
  rw [halves_len]
  exact Nat.pow_le_pow_right (by decide) h
theorem halves_mem : ∀ n, ∀ h ∈ halvesL n, h.length = n ∧ ∀ x ∈ h, x = none ∨ x = some 0 ∨ x = some 1
  | 0, h, q => by simp [halvesL] at q; simp [q]
  | n + 1, h, q => by
    simp only [halvesL, List.mem_flatMap] at q
    obtain ⟨a, h1, h2⟩ := q
    obtain ⟨l, m⟩ := halves_mem n a h1
    simp only [split3, List.mem_cons, List.not_mem_nil, or_false] at h2
    rcases h2 with rfl | rfl | rfl <;> refine ⟨by simp [l], fun x hx => ?_⟩ <;> rcases List.mem_append.mp hx with hx | hx <;> first | exact m x hx | simp at hx; simp [hx]
theorem halves_all : ∀ n (h : List (Option Int)), h.length = n → (∀ x ∈ h, x = none ∨ x = some 0 ∨ x = some 1) → h ∈ halvesL n
  | 0, h, l, _ => by
    have : h = [] := List.length_eq_zero_iff.mp l
    simp [this, halvesL]
  | n + 1, h, l, m => by
    have hn : h ≠ [] := fun z => by rw [z] at l; cases l
    have e := List.dropLast_concat_getLast hn
    simp only [halvesL, List.mem_flatMap]
    refine ⟨h.dropLast, halves_all n _ (by simp [l]) fun x hx => m x ((List.dropLast_sublist h).subset hx), ?_⟩
    rw [← e]
    rw [List.dropLast_concat]
    rcases m _ (List.getLast_mem hn) with q | q | q <;> simp [split3, q]
theorem law_halves {many : Nat} (hm : many ≤ 9) (S : List Cell) : F__law_halves [.v (.int many)] S = some (.ol ((halvesL many).map tO), S) := by
  refine run_ret [slU (.int many), none, none, none, none] rfl ?_
  have outer := loopI (α := Nat) (b := seq (sSet 3 (lstF (aNil))) (seq (sFor (vals (nm 1)) (onV (gN 4)) (sDo (up (lmt kExtend (rN 3) (aCons (fz (lstF (aCons (bin gAdd (nm 4) (tupF (aCons (kst .none) (aNil)))) (aCons (bin gAdd (nm 4) (tupF (aCons (kst (.int 0)) (aNil)))) (aCons (bin gAdd (nm 4) (tupF (aCons (kst (.int 1)) (aNil)))) (aNil)))))) (aNil)))))) (sSet 1 (b1 kList (rN 3)))))
    (fun i => .v (.v (.int (i : Nat)))) (fun pre st => ∃ a b c : Option O, st = ⟨[slU (.int many), some (.ol ((halvesL pre.length).map tO)), a, b, c], S, []⟩) (g := onV (gN 2)) (List.range many) ⟨[slU (.int many), some (.ol [.tuple []]), none, none, none], S, []⟩ ⟨_, _, _, rfl⟩ (by
      rintro pre i post st e ⟨a, b, c, rfl⟩
      have hp : pre.length < many := by
        have := pre_le e
        rwa [List.length_range] at this
      have big := halves_le (show pre.length ≤ 10 by omega)
      have inner := loopI (α := List (Option Int)) (b := sDo (up (lmt kExtend (rN 3) (aCons (fz (lstF (aCons (bin gAdd (nm 4) (tupF (aCons (kst .none) (aNil)))) (aCons (bin gAdd (nm 4) (tupF (aCons (kst (.int 0)) (aNil)))) (aCons (bin gAdd (nm 4) (tupF (aCons (kst (.int 1)) (aNil)))) (aNil)))))) (aNil)))))
        (fun r => .v (.v (tO r))) (fun p st => ∃ (acc : List (List (Option Int))) (o : Option O), acc = p.flatMap split3 ∧ st = ⟨[slU (.int many), slU (.list ((halvesL pre.length).map tO)), slU (.int i), some (.ol (acc.map tO)), o], S, []⟩) (g := onV (gN 4)) (halvesL pre.length) ⟨[slU (.int many), slU (.list ((halvesL pre.length).map tO)), slU (.int i), some (.ol []), c], S, []⟩ ⟨[], _, rfl, rfl⟩ (by
          rintro p r q st e2 ⟨acc, o, ha, rfl⟩
          have l1 : r.length = pre.length := (halves_mem _ r (by rw [e2]; simp)).1
          have l2 : acc.length = 3 * p.length := by rw [ha, flat3 split3 fun _ => rfl]
          have l3 := pre_le e2
          refine ⟨_, ⟨[slU (.int many), slU (.list ((halvesL pre.length).map tO)), slU (.int i), some (.ol ((acc ++ split3 r).map tO)), slU (tO r)], S, []⟩, rfl, .inl ?_, _, _, ?_, rfl⟩
          · simp [split3, eO, l1, l2, lineOk_of (show 1 ≤ 16777216 by omega), lineOk_of (show pre.length + 1 ≤ 16777216 by omega), lineOk_of (show 3 ≤ 16777216 by omega), lineOk_of (show 3 * p.length + 3 ≤ 16777216 by omega)]
          · rw [ha, List.flatMap_append]
            simp)
      obtain ⟨st', e3, acc, o, ha, rfl⟩ := inner
      refine ⟨_, ⟨[slU (.int many), some (.ol ((halvesL (pre ++ [i]).length).map tO)), slU (.int i), some (.ol (acc.map tO)), o], S, []⟩, rfl, .inl ?_, _, _, _, rfl⟩
      have hr : halvesL (pre.length + 1) = acc := by rw [ha]; rfl
      simp [Function.comp_def, e3, hr, kList, lineOk_of (show 0 ≤ 16777216 by omega)])
  obtain ⟨st', e, a, b, c, rfl⟩ := outer
  rw [List.length_range] at e
  have r1 : rg1 (nm 0) ⟨[slU (.int many), some (.ol [.tuple []]), none, none, none], S, []⟩ = some (rgN many, ⟨[slU (.int many), some (.ol [.tuple []]), none, none, none], S, []⟩) := q_rg1n (by simp) (by omega)
  have e : fLoop (onV (gN 2)) _ (rgN many) _ = _ := e
  simp [B__law_halves, lineOk_of (show 0 ≤ 16777216 by omega), lineOk_of (show 1 ≤ 16777216 by omega), r1, e]
end Sp

namespace Sp
open PySem L2 MP Sh

/-! ## the mill -/
def millD (d : Nat) (sl turn : Int) : List (PyData × U) := [(.str "deep", .ref d), (.str "seal", .v (.int sl)), (.str "turn", .v (.int turn))]
theorem mill_ok {d : Nat} {s t : Int} {z : Str} : kOk (millD d s t) (.str z) = true := by
  simp [kOk, millD, flatKeys, isTup]
theorem mill_deep {d : Nat} {s t : Int} : dget (millD d s t) (.str "deep") = some (.ref d) := by
  simp [dget, millD, sameK]
theorem kf_str {a : Str} : kf (.str a) = some (.text a) := rfl
theorem sameK_str {a b : Str} {x : U} : sameK (.str a) (.str b, x) = decide (b = a) := by
  unfold sameK
  rw [kf_str, kf_str]
  by_cases h : b = a
  · subst h
    simp
  · rw [decide_eq_false h, decide_eq_false]
    intro z
    cases z
    exact h rfl
theorem mill_seal {d : Nat} {s t : Int} : dget (millD d s t) (.str "seal") = some (.v (.int s)) := by
  unfold dget millD
  rw [List.find?_cons, sameK_str, decide_eq_false (by decide)]
  simp [sameK_str]
theorem mill_turn {d : Nat} {s t : Int} : dget (millD d s t) (.str "turn") = some (.v (.int t)) := by
  unfold dget millD
  rw [List.find?_cons, sameK_str, decide_eq_false (by decide)]
  simp only
  rw [List.find?_cons, sameK_str, decide_eq_false (by decide)]
  simp [sameK_str]
theorem mill_put {d : Nat} {s t u : Int} : dput (millD d s t) (.str "turn") (.v (.int u)) = millD d s u := by
  unfold dput
  rw [mill_turn]
  unfold millD
  simp only [Option.isSome_some, if_true, List.map_cons, List.map_nil, sameK_str]
  rw [if_neg (by decide), if_neg (by decide), if_pos (by decide)]
structure Mill (S : List Cell) (l d : Nat) : Prop where
  ne : l ≠ d
  cells : ∃ (deep : List Int) (sl turn : Int), S[l]? = some (.cd (millD d sl turn)) ∧ S[d]? = some (.cl (deep.map .int)) ∧ (∀ x ∈ deep, 0 ≤ x) ∧ deep.length ≤ 60
/-- nothing but the mill's own cells is changed -/
structure Same (S S' : List Cell) (l d : Nat) : Prop where
  len : S'.length = S.length
  at_ : ∀ i, i ≠ l → i ≠ d → S'[i]? = S[i]?
theorem Same.refl (S : List Cell) (l d : Nat) : Same S S l d := ⟨rfl, fun _ _ _ => rfl⟩
theorem Same.trans {A B C : List Cell} {l d : Nat} (h : Same A B l d) (k : Same B C l d) : Same A C l d := ⟨k.len.trans h.len, fun i a b => (k.at_ i a b).trans (h.at_ i a b)⟩
theorem law_take {S : List Cell} {l d : Nat} (M : Mill S l d) {many : Int} (h0 : 0 ≤ many) (h1 : many ≤ 1000000) :
    ∃ (r : Int) (S' : List Cell), F__law_take [.ref l, .v (.int many)] S = some (.u (.v (.int r)), S') ∧ (0 ≤ r ∧ (r < many ∨ (many < 2 ∧ r = 0))) ∧ Mill S' l d ∧ Same S S' l d := by
  obtain ⟨ne, deep, sl, turn, hl, hd, pos, few⟩ := M
  by_cases small : many < 2
  · refine ⟨0, S, run_ret [some (.u (.ref l)), slU (.int many), none, none] rfl ?_, ⟨by omega, .inr ⟨small, rfl⟩⟩, ⟨ne, deep, sl, turn, hl, hd, pos, few⟩, .refl S l d⟩
    simp [B__law_take, small]
  · have big : ¬ many < 2 := small
    have m0 : many ≠ 0 := by omega
    cases deep with
    | nil =>
      let t1 := turn + 1
      let n1 := (sl * 69621 + t1 * 40503 + 17).fmod 4294967279
      let n2 := (n1 * n1 + sl).fmod 4294967231
      let n3 := (n2 * 48271 + t1 * 2654435).fmod 4294967197
      have b1 : n1.natAbs < 18446744073709551616 := by
        have h1 : 0 ≤ n1 := Int.fmod_nonneg_of_pos _ (by decide)
        have h2 : n1 < 4294967279 := Int.fmod_lt_of_pos _ (by decide)
        omega
      have r1 : 0 ≤ ((n3.fdiv 32).fmod many) := Int.fmod_nonneg_of_pos _ (by omega)
      have r2 : ((n3.fdiv 32).fmod many) < many := Int.fmod_lt_of_pos _ (by omega)
      refine ⟨(n3.fdiv 32).fmod many, S.set l (.cd (millD d sl t1)), run_ret [some (.u (.ref l)), slU (.int many), none, none] rfl ?_, ⟨r1, .inl r2⟩, ⟨ne, [], sl, t1, ?_, ?_, pos, few⟩, ⟨by simp, fun i a b => by rw [List.getElem?_set_ne (Ne.symm a)]⟩⟩
      · have hlt : l < S.length := (List.getElem?_eq_some_iff.mp hl).1
        have g2 : (S.set l (.cd (millD d sl t1)))[l]? = some (.cd (millD d sl t1)) := List.getElem?_set_self hlt
        have e3 : (millD d sl turn).length = 3 := rfl
        simp only [List.map_nil] at hd
        simp [B__law_take, big, hl, hd, mill_ok, mill_deep, mill_turn, mill_seal, mill_put, e3, g2, t1, n1, n2, n3, lineOk_of (show 0 ≤ 16777216 by omega), shaped_lst (ds := []) rfl,
          q_mul (a := sl) (b := 69621) (.inr (by decide)), q_mul (a := turn + 1) (b := 40503) (.inr (by decide)), q_mod (b := 4294967279) (by decide), q_mod (b := 4294967231) (by decide), q_mod (b := 4294967197) (by decide),
          q_mul (a := n1) (b := n1) (.inl b1), q_mul (a := n2) (b := 48271) (.inr (by decide)), q_mul (a := turn + 1) (b := 2654435) (.inr (by decide)), q_div (a := n3) (b := 32) (by decide) (by decide), q_mod (b := many) m0]
      · exact List.getElem?_set_self (List.getElem?_eq_some_iff.mp hl).1
      · rw [List.getElem?_set_ne ne]
        exact hd
    | cons own deep =>
      have dlt : d < S.length := (List.getElem?_eq_some_iff.mp hd).1
      have own0 : 0 ≤ own := pos own List.mem_cons_self
      have len1 : deep.length ≤ 59 := by simpa using few
      have r1 : 0 ≤ own.fmod many := Int.fmod_nonneg_of_pos _ (by omega)
      have r2 : own.fmod many < many := Int.fmod_lt_of_pos _ (by omega)
      have hd' : S[d]? = some (.cl (.int own :: deep.map .int)) := hd
      have g1 : ∀ c : Cell, (S.set d c)[d]? = some c := fun c => List.getElem?_set_self dlt
      have gl : ∀ c : Cell, (S.set d c)[l]? = some (.cd (millD d sl turn)) := fun c => by rw [List.getElem?_set_ne ne.symm]; exact hl
      have sh : SeqAt.shaped (.list (.int own :: deep.map .int)) = true := shaped_lst (by rw [List.all_cons, flat_ints]; rfl)
      have pop : kPopAt (.int own :: deep.map .int) [.v (.int 0)] = some (.v (.int own), deep.map .int) := by
        have e0 : ixN (deep.length + 1) 0 = some 0 := by
          unfold ixN
          rw [if_pos (by decide), if_pos (by omega)]
          rfl
        simp [kPopAt, e0, lineOk_of (show deep.length + 1 ≤ 16777216 by omega)]
      have ne_ : (PyData.eqv (.list (.int own :: deep.map .int)) (.list []) != true) = true := rfl
      by_cases h : many ≤ own
      · have q0 : 0 ≤ own.fdiv many := Int.fdiv_nonneg own0 (by omega)
        have ins : kInsert (deep.map .int) [.v (.int 0), .v (.int (own.fdiv many))] = some (.v .none, .int (own.fdiv many) :: deep.map .int) := by
          simp [kInsert, lineOk_of (show deep.length + 1 ≤ 16777216 by omega)]
        refine ⟨own.fmod many, S.set d (.cl ((own.fdiv many :: deep).map .int)), run_ret [some (.u (.ref l)), slU (.int many), none, none] rfl ?_, ⟨r1, .inl r2⟩, ⟨ne, _, sl, turn, gl _, g1 _, ?_, by simpa using few⟩, ⟨by simp, fun i a b => by rw [List.getElem?_set_ne (Ne.symm b)]⟩⟩
        · simp [B__law_take, big, hl, hd', mill_ok, mill_deep, lineOk_of (show 0 ≤ 16777216 by omega), sh, shaped_lst (ds := []) rfl, ne_, pop, gl, g1, h, ins, q_div (a := own) (b := many) m0 (by omega), q_mod (a := own) (b := many) m0]
        · intro x hx
          rcases List.mem_cons.mp hx with rfl | hx
          · exact q0
          · exact pos x (List.mem_cons_of_mem _ hx)
      · refine ⟨own.fmod many, S.set d (.cl (deep.map .int)), run_ret [some (.u (.ref l)), slU (.int many), none, none] rfl ?_, ⟨r1, .inl r2⟩, ⟨ne, _, sl, turn, gl _, g1 _, fun x hx => pos x (List.mem_cons_of_mem _ hx), by omega⟩, ⟨by simp, fun i a b => by rw [List.getElem?_set_ne (Ne.symm b)]⟩⟩
        simp [B__law_take, big, hl, hd', mill_ok, mill_deep, lineOk_of (show 0 ≤ 16777216 by omega), sh, shaped_lst (ds := []) rfl, ne_, pop, gl, g1, h, q_mod (a := own) (b := many) m0]
/-- the mill, made of a script -/
theorem law_mill {ns : List Int} (hn : ns.length ≤ 63) (s0 : Int) (h0 : s0.natAbs < 4294967291) (S : List Cell) :
    ∃ (deep : List Int) (sl : Int), F__law_mill [.scr ns, .v (.int s0)] S = some (.od (millD S.length sl 0), S ++ [.cl (deep.map .int)]) ∧ (∀ x ∈ deep, 0 ≤ x) ∧ deep.length ≤ 60 := by
  have cut : cutP (ns.map PyData.int) none (some 60) = (ns.take 60).map .int := by
    unfold cutP
    rw [HT.sIx_none]
    have : (60 : Int) = ((60 : Nat) : Int) := rfl
    rw [this, HT.sIx_nat]
    simp
  have loop := loopI (α := Int) (b := seq (sSet 4 (up (bin gAdd (bin gMul (kst (.int 2)) (fz (bl kAbs (aCons (nm 3) (aNil))))) (fz (bl kInt (aCons (bin iLt (nm 3) (kst (.int 0))) (aNil))))))) (seq (sSet 1 (up (bin iMod (fz (bl kInt (aCons (bin gAdd (bin gAdd (bin gMul (nm 1) (kst (.int 48271))) (nm 4)) (kst (.int 7))) (aNil)))) (kst (.int 4294967291))))) (sIf (tst (bin iGe (nm 4) (bin iPow (kst (.int 10)) (kst (.int 16))))) (sDo (up (lmt kAppend (rN 2) (aCons (nm 4) (aNil))))) (sNil))))
    (fun x => .v (.v (.int x))) (fun pre st => ∃ (deep : List Int) (sl : Int) (a b : Option O), (∀ x ∈ deep, 0 ≤ x) ∧ deep.length ≤ pre.length ∧ st = ⟨[some (.u (.scr ns)), slU (.int sl), some (.ol (deep.map .int)), a, b], S, []⟩) (g := onV (gN 3)) (ns.take 60) ⟨[some (.u (.scr ns)), slU (.int s0), some (.ol []), none, none], S, []⟩
    ⟨[], s0, _, _, by simp, by simp, rfl⟩ (by
      rintro pre x post st e ⟨deep, sl, a, b, hp, hl, rfl⟩
      have l60 : pre.length < 60 := by
        have := pre_le e
        rw [List.length_take] at this
        omega
      let own : Int := 2 * (if x < 0 then -x else x) + (if x < 0 then 1 else 0)
      have own0 : 0 ≤ own := by
        show (0 : Int) ≤ 2 * (if x < 0 then -x else x) + (if x < 0 then 1 else 0)
        split <;> omega
      let s1 : Int := (sl * 48271 + own + 7).fmod 4294967291
      by_cases h : (10000000000000000 : Int) ≤ own
      · refine ⟨_, ⟨[some (.u (.scr ns)), slU (.int s1), some (.ol ((deep ++ [own]).map .int)), slU (.int x), slU (.int own)], S, []⟩, rfl, .inl ?_, deep ++ [own], s1, _, _, ?_, ?_, rfl⟩
        · have h' : (10000000000000000 : Int) ≤ 2 * (if x < 0 then -x else x) + (if x < 0 then 1 else 0) := h
          simp [q_mul (a := sl) (b := 48271) (.inr (by decide)), q_mod (b := 4294967291) (by decide), q_pow (a := 10) (b := 16) (by decide) (by decide) (by decide), h', s1, own, lineOk_of (show deep.length + 1 ≤ 16777216 by omega)]
        · intro y hy
          rcases List.mem_append.mp hy with hy | hy
          · exact hp y hy
          · rw [List.mem_singleton.mp hy]
            exact own0
        · simp
          omega
      · refine ⟨_, ⟨[some (.u (.scr ns)), slU (.int s1), some (.ol (deep.map .int)), slU (.int x), slU (.int own)], S, []⟩, rfl, .inl ?_, deep, s1, _, _, hp, by simp; omega, rfl⟩
        have h' : ¬ (10000000000000000 : Int) ≤ 2 * (if x < 0 then -x else x) + (if x < 0 then 1 else 0) := h
        simp [q_mul (a := sl) (b := 48271) (.inr (by decide)), q_mod (b := 4294967291) (by decide), q_pow (a := 10) (b := 16) (by decide) (by decide) (by decide), h', s1, own])
  obtain ⟨st', e, deep, sl, a, b, hp, hl, rfl⟩ := loop
  refine ⟨deep, sl + ((ns.take 60).length : Nat), run_ret [some (.u (.scr ns)), slU (.int s0), none, none, none] rfl ?_, hp, ?_⟩
  · have pa : ∀ x : Int, putAll [(.str "deep", .ref S.length), (.str "seal", .v (.int x)), (.str "turn", .v (.int 0))] = millD S.length x 0 := fun x => by
      unfold putAll
      have d1 : (Str.ofString "deep" = Str.ofString "seal") = False := by simp; decide
      have d2 : (Str.ofString "deep" = Str.ofString "turn") = False := by simp; decide
      have d3 : (Str.ofString "seal" = Str.ofString "turn") = False := by simp; decide
      simp [dput, dget, sameK_str, d1, d2, d3, millD]
    have e' := e
    simp only [List.map_take] at e'
    simp [B__law_mill, lineOk_of (show 0 ≤ 16777216 by omega), cut, Function.comp_def, e', pa]
  · rw [List.length_take] at hl
    omega
end Sp

namespace Sp
open PySem L2 MP Sh

/-! ## drawn things -/
theorem atI_nat' {α : Type} {xs : List α} {i : Nat} (h : i < xs.length) : atI xs (i : Int) = some xs[i] := by
  unfold atI ixN
  rw [if_pos (by omega), if_pos (by omega)]
  simp [h]
theorem atI_of {α : Type} {xs : List α} {i : Int} (h0 : 0 ≤ i) (h : i.toNat < xs.length) : atI xs i = some xs[i.toNat] := by
  obtain ⟨n, rfl⟩ := Int.eq_ofNat_of_zero_le h0
  exact atI_nat' h
theorem erase_perm {α : Type} : ∀ {l : List α} {i : Nat} (h : i < l.length), (l[i] :: l.eraseIdx i).Perm l
  | a :: l, 0, _ => List.Perm.refl _
  | a :: l, i + 1, h => by
    have := erase_perm (l := l) (i := i) (by simpa using h)
    exact (List.Perm.swap a _ _).trans (List.Perm.cons a this)
theorem law_one {S : List Cell} {l d : Nat} (M : Mill S l d) {ds : List PyData} (h0 : ds ≠ []) (h1 : ds.length ≤ 1000000) :
    ∃ (x : PyData) (S' : List Cell), x ∈ ds ∧ F__law_one [.ref l, .v (.list ds)] S = some (.u (.v x), S') ∧ Mill S' l d ∧ Same S S' l d := by
  have pos : 0 < ds.length := List.length_pos_iff.mpr h0
  obtain ⟨r, S', e, ⟨r0, r1⟩, M', sm⟩ := law_take M (many := (ds.length : Int)) (by omega) (by omega)
  have hr : r.toNat < ds.length := by omega
  refine ⟨ds[r.toNat], S', List.getElem_mem hr, run_ret [some (.u (.ref l)), slU (.list ds)] rfl ?_, M', sm⟩
  have ea := atI_of r0 hr
  simp [B__law_one, e, ea]
theorem law_mixed {S : List Cell} {l d : Nat} (M : Mill S l d) {ds : List PyData} (h1 : ds.length ≤ 1000) (hf : ds.all flatD = true) :
    ∃ (es : List PyData) (S' : List Cell), es.Perm ds ∧ F__law_mixed [.ref l, .v (.list ds)] S = some (.ol es, S') ∧ Mill S' l d ∧ Same S S' l d := by
  have loop : ∀ (n : Nat) (rest found : List PyData) (S : List Cell), rest.length = n → rest.length + found.length ≤ 1000 → rest.all flatD = true → Mill S l d →
      ∃ (es : List PyData) (S' : List Cell), (es).Perm (found ++ rest) ∧ sWhile (tst (eqR true (rN 2) (rU (fz (lstF (aNil)))))) (sDo (up (lmt kAppend (rN 3) (aCons (lmt kPopAt (rN 2) (aCons (fz (cal 2 F__law_take (aCons (nm 0) (aCons (fz (b1 kLen (rN 2))) (aNil))))) (aNil))) (aNil)))))
        ⟨[some (.u (.ref l)), slU (.list ds), some (.ol rest), some (.ol found)], S, []⟩ = some (.nx, ⟨[some (.u (.ref l)), slU (.list ds), some (.ol []), some (.ol es)], S', []⟩) ∧ Mill S' l d ∧ Same S S' l d := by
    intro n
    induction n with
    | zero =>
      intro rest found S hn hl hfl M
      have : rest = [] := List.length_eq_zero_iff.mp hn
      subst this
      refine ⟨found, S, by simp, sWhile_end ?_, M, .refl S l d⟩
      simp [lineOk_of (show 0 ≤ 16777216 by omega), shaped_lst (ds := []) rfl]
    | succ n ih =>
      intro rest found S hn hl hfl M
      obtain ⟨r, S1, e, ⟨r0, r1⟩, M1, sm1⟩ := law_take M (many := (rest.length : Int)) (by omega) (by omega)
      have hr : r.toNat < rest.length := by omega
      have ei : ixN rest.length r = some r.toNat := by
        unfold ixN
        rw [if_pos r0, if_pos (by omega)]
      have eg : rest[r.toNat]? = some rest[r.toNat] := List.getElem?_eq_getElem hr
      obtain ⟨es, S2, pm, ew, M2, sm2⟩ := ih (rest.eraseIdx r.toNat) (found ++ [rest[r.toNat]]) S1 (by rw [List.length_eraseIdx, if_pos hr]; omega) (by rw [List.length_eraseIdx, if_pos hr]; simp; omega) (by
        rw [List.all_eq_true] at hfl ⊢
        exact fun x hx => hfl x (List.mem_of_mem_eraseIdx hx)) M1
      have nonempty : ∃ x xs, rest = x :: xs := by
        cases rest with
        | nil => simp at hn
        | cons x xs => exact ⟨x, xs, rfl⟩
      refine ⟨es, S2, pm.trans ?_, sWhile_step (st1 := ⟨[some (.u (.ref l)), slU (.list ds), some (.ol rest), some (.ol found)], S, []⟩) (st2 := ⟨[some (.u (.ref l)), slU (.list ds), some (.ol (rest.eraseIdx r.toNat)), some (.ol (found ++ [rest[r.toNat]]))], S1, []⟩) ?_ ?_ ew, M2, sm1.trans sm2⟩
      · rw [List.append_assoc]
        exact List.Perm.append_left found (erase_perm hr)
      · obtain ⟨x, xs, rfl⟩ := nonempty
        have sh := shaped_lst hfl
        simp [lineOk_of (show 0 ≤ 16777216 by omega), shaped_lst (ds := []) rfl, sh]
      · simp [e, kPopAt, ei, eg, lineOk_of (show rest.length ≤ 16777216 by omega), lineOk_of (show found.length + 1 ≤ 16777216 by omega)]
  obtain ⟨es, S', pm, ew, M', sm⟩ := loop ds.length ds [] S rfl (by simp; omega) hf M
  refine ⟨es, S', by simpa using pm, run_ret [some (.u (.ref l)), slU (.list ds), none, none] rfl ?_, M', sm⟩
  simp [B__law_mixed, kList, lineOk_of (show 0 ≤ 16777216 by omega), ew]
end Sp

namespace Sp
open PySem L2 MP Sh

/-! ## known tables -/
def Bits (r : List Int) : Prop := ∀ x ∈ r, x = 0 ∨ x = 1
theorem rows_bits : ∀ n, ∀ r ∈ rows n, Bits r
  | 0, r, h => by
    simp [rows] at h
    simp [h, Bits]
  | n + 1, r, h => by
    simp only [rows, List.mem_flatMap] at h
    obtain ⟨a, h1, h2⟩ := h
    have q := rows_bits n a h1
    simp at h2
    rcases h2 with rfl | rfl <;> intro x hx <;> rcases List.mem_append.mp hx with hx | hx <;> first | exact q x hx | (simp at hx; simp [hx])
theorem intsOf_map : ∀ xs : List Int, intsOf (xs.map .int) = some xs
  | [] => rfl
  | x :: xs => by
    show (intsOf (xs.map .int)).map (x :: ·) = _
    rw [intsOf_map xs]
    rfl
theorem atI_map {row : List Int} {p : Int} (h0 : 0 ≤ p) (h : p.toNat < row.length) : atI (row.map PyData.int) p = some (.int row[p.toNat]) := by
  rw [atI_of h0 (by simpa using h)]
  simp
abbrev stK (w : Str) (many hf : Nat) (F : List PyData) (row : List Int) (s : Int) (a b c : Option O) (S : List Cell) : Stt :=
  ⟨[slU (.str w), slU (.int many), some (.ol F), slU (tI row), slU (.int s), slU (.int hf), a, b, c], S, []⟩
section
variable {w : Str} {many hf : Nat} {F : List PyData} {row : List Int} {s : Int} {a b c : Option O} {S : List Cell}
theorem kn_halves (hl : 2 * hf ≤ row.length) (hm : row.length ≤ 20) : ∃ (z : Bool) (b' : Option O), (sSet 6 (b1 kAny (rU (fz (lc (rg1 (nm 5)) (onV (gN 7)) (yes) (eqR false (rU (bin gAdd (idx (rN 3) (nm 7)) (idx (rN 3) (bin gAdd (nm 5) (nm 7))))) (rU (kst (.int 2)))) [7]))))) (stK w many hf F row s a b c S) = some (.nx, stK w many hf F row s (slU (.bool z)) b' c S) := by
  obtain ⟨q, hq⟩ : ∃ q : Nat → Bool, ∀ x, q x = (row.getD x 0 + row.getD (hf + x) 0 == 2) := ⟨_, fun _ => rfl⟩
  have e := lcV1 (i := 7) (r0 := [slU (.str w), slU (.int many), some (.ol F), slU (tI row), slU (.int s), slU (.int hf), a, b, c]) (S := S) (h := []) (st := stK w many hf F row s a b c S) (f := rg1 (nm 5)) (e := (eqR false (rU (bin gAdd (idx (rN 3) (nm 7)) (idx (rN 3) (bin gAdd (nm 5) (nm 7))))) (rU (kst (.int 2)))))
    (fun x : Nat => PyData.int (x : Nat)) (fun x => .bool (q x)) (List.range hf) (q_rg1n (by simp [stK]) (by omega)) (by simp) (fun x hx h => ?_) (by rw [List.length_range]; omega)
  · have e2 := boolsOf_map ((List.range hf).map q)
    rw [List.map_map] at e2
    simp only [Function.comp_def] at e2
    exact ⟨(List.range hf).any q, keepU (some b), by simp [stK, e, keepU, kAny, e2]⟩
  · have hx := List.mem_range.mp hx
    have a1 := atI_map (row := row) (p := (x : Int)) (by omega) (by omega)
    have a2 := atI_map (row := row) (p := (hf : Int) + (x : Int)) (by omega) (by omega)
    have t2 : ((hf : Int) + (x : Int)).toNat = hf + x := by omega
    simp only [Int.toNat_natCast] at a1
    simp only [t2] at a2
    simp [a1, a2, hq, List.getD_eq_getElem?_getD, List.getElem?_eq_getElem (show x < row.length by omega), List.getElem?_eq_getElem (show hf + x < row.length by omega)]

theorem kn_pick (hb : Bits row) (hl : row.length = many) (hm : many = 3 ∨ many = 6) : ∃ z : Bool, (sSet 6 (up (eqR false (rU (idx (rN 3) (bin gAdd (ifU (tst (eqR false (rN 1) (rU (kst (.int 3))))) (kst (.int 1)) (kst (.int 2))) (fz (cal 1 F__law_number (aCons (fz (slc (rN 3) (pNo) (pAt (ifU (tst (eqR false (rN 1) (rU (kst (.int 3))))) (kst (.int 1)) (kst (.int 2)))))) (aNil))))))) (rU (kst (.int 1)))))) (stK w many hf F row s a b c S) = some (.nx, stK w many hf F row s (slU (.bool z)) b c S) := by
  rcases hm with rfl | rfl
  · match row, hl with
    | [x, y, z], _ =>
      have e1 : cutP [PyData.int x, .int y, .int z] none (some 1) = [PyData.int x] := cut_to (α := [PyData.int x, .int y, .int z]) (p := 1) (by simp)
      have en : F__law_number [.v (.tuple [.int x])] S = some (.u (.v (.int x)), S) := by
        have := law_number [x] S
        simpa [num, tI] using this
      rcases hb x (by simp) with rfl | rfl
      · exact ⟨y == 1, by simp [stK, e1, en, atI, ixN]⟩
      · exact ⟨z == 1, by simp [stK, e1, en, atI, ixN]⟩
  · match row, hl with
    | [x, y, z, u, v, t], _ =>
      have e1 : cutP [PyData.int x, .int y, .int z, .int u, .int v, .int t] none (some 2) = [PyData.int x, .int y] := cut_to (α := [PyData.int x, .int y, .int z, .int u, .int v, .int t]) (p := 2) (by simp)
      have en : F__law_number [.v (.tuple [.int x, .int y])] S = some (.u (.v (.int (2 * x + y))), S) := by
        have := law_number [x, y] S
        simpa [num, tI] using this
      rcases hb x (by simp) with rfl | rfl <;> rcases hb y (by simp) with rfl | rfl
      · exact ⟨z == 1, by simp [stK, e1, en, atI, ixN]⟩
      · exact ⟨u == 1, by simp [stK, e1, en, atI, ixN]⟩
      · exact ⟨v == 1, by simp [stK, e1, en, atI, ixN]⟩
      · exact ⟨t == 1, by simp [stK, e1, en, atI, ixN]⟩
theorem alike_ints : ∀ xs : List Int, alikeB (xs.map .int) = true := fun xs => by
  unfold alikeB
  simp [PySem.W.alike]
theorem sort_ints : ∀ xs : List Int, sortB (xs.map .int) = true := fun xs => by
  unfold sortB
  simp
theorem shaped_ints : ∀ xs : List Int, (xs.map PyData.int).all SeqAt.shaped = true := fun xs => by simp
theorem srt_flat {k : PyData → PyData} {xs : List PyData} (h : xs.all flatD = true) : (srt k xs).all flatD = true := by
  rw [List.all_eq_true] at h ⊢
  exact fun x hx => h x ((List.mergeSort_perm xs _).mem_iff.mp hx)
theorem kn_rise : ∃ z : Bool, (sSet 6 (up (orU (eqR false (rU (fz (b1 kList (rN 3)))) (rU (fz (b1 kSorted (rN 3))))) (eqR false (rU (fz (b1 kList (rN 3)))) (rU (fz (rev (rU (fz (b1 kSorted (rN 3))))))))))) (stK w many hf F row s a b c S) = some (.nx, stK w many hf F row s (slU (.bool z)) b c S) := by
  have e1 : kSorted (.t (row.map .int)) = some (.ol (srt id (row.map .int))) := by
    show (if (alikeB (row.map .int) && sortB (row.map .int) && (row.map PyData.int).all SeqAt.shaped) = true then some (O.ol (srt id (row.map .int))) else none) = _
    rw [alike_ints, sort_ints, shaped_ints]
    rfl
  have f1 := shaped_lst (flat_ints (xs := row))
  have f2 := shaped_lst (srt_flat (k := id) (flat_ints (xs := row)))
  have f3 := shaped_lst (ds := (srt id (row.map .int)).reverse) (by rw [List.all_reverse]; exact srt_flat (flat_ints (xs := row)))
  cases h : PyData.eqv (.list (row.map .int)) (.list (srt id (row.map .int))) with
  | true => exact ⟨true, by simp [stK, kList, rev, e1, f1, f2, f3, h] ⟩
  | false => exact ⟨PyData.eqv (.list (row.map .int)) (.list (srt id (row.map .int)).reverse), by simp [stK, kList, rev, e1, f1, f2, f3, h]⟩
theorem get_any {b1 b2 b3 b4 d : Bool} : ∃ z : Bool, (dget [(.str "all", .v (.bool b1)), (.str "any", .v (.bool b2)), (.str "first", .v (.bool b3)), (.str "most", .v (.bool b4))] (.str w)).getD (.v (.bool d)) = .v (.bool z) := by
  unfold dget
  rw [List.find?_cons, sameK_str]
  by_cases h1 : Str.ofString "all" = w
  · exact ⟨b1, by simp [h1]⟩
  rw [decide_eq_false h1]
  simp only
  rw [List.find?_cons, sameK_str]
  by_cases h2 : Str.ofString "any" = w
  · exact ⟨b2, by simp [h2]⟩
  rw [decide_eq_false h2]
  simp only
  rw [List.find?_cons, sameK_str]
  by_cases h3 : Str.ofString "first" = w
  · exact ⟨b3, by simp [h3]⟩
  rw [decide_eq_false h3]
  simp only
  rw [List.find?_cons, sameK_str]
  by_cases h4 : Str.ofString "most" = w
  · exact ⟨b4, by simp [h4]⟩
  rw [decide_eq_false h4]
  exact ⟨d, rfl⟩
theorem put_four {x1 x2 x3 x4 : U} : putAll [(.str "all", x1), (.str "any", x2), (.str "first", x3), (.str "most", x4)] = [(.str "all", x1), (.str "any", x2), (.str "first", x3), (.str "most", x4)] := by
  unfold putAll
  have d1 : (Str.ofString "all" = Str.ofString "any") = False := by simp; decide
  have d2 : (Str.ofString "all" = Str.ofString "first") = False := by simp; decide
  have d3 : (Str.ofString "all" = Str.ofString "most") = False := by simp; decide
  have d4 : (Str.ofString "any" = Str.ofString "first") = False := by simp; decide
  have d5 : (Str.ofString "any" = Str.ofString "most") = False := by simp; decide
  have d6 : (Str.ofString "first" = Str.ofString "most") = False := by simp; decide
  simp [dput, dget, sameK_str, d1, d2, d3, d4, d5, d6]
theorem kn_else (h0 : row ≠ []) : ∃ (z : Bool) (c' : Option O), (seq (sSet 8 (dspF [(kst (.str "all"), eqR false (rN 4) (rN 1)), (kst (.str "any"), bin iGt (nm 4) (kst (.int 0))), (kst (.str "first"), eqR false (rU (idx (rN 3) (kst (.int 0)))) (rU (kst (.int 1)))), (kst (.str "most"), bin iGt (bin gMul (kst (.int 2)) (nm 4)) (nm 1))])) (sSet 6 (up (mth kGet (rN 8) (aCons (nm 0) (aCons (eqR false (rU (bin iMod (fz (bl kInt (aCons (nm 4) (aNil)))) (kst (.int 2)))) (rU (kst (.int 1)))) (aNil))))))) (stK w many hf F row s a b c S) = some (.nx, stK w many hf F row s (slU (.bool z)) b c' S) := by
  have r0 : atI (row.map PyData.int) 0 = some (.int (row.getD 0 0)) := by
    cases row with
    | nil => exact absurd rfl h0
    | cons x xs => exact atI_map (row := x :: xs) (p := 0) (by decide) (by simp)
  obtain ⟨z, hz⟩ := get_any (w := w) (b1 := s == many) (b2 := decide (0 < s)) (b3 := row.getD 0 0 == 1) (b4 := decide ((many : Int) < 2 * s)) (d := s.fmod 2 == 1)
  have ok : ∀ kvs : List (PyData × U), flatKeys kvs = true → kOk kvs (.str w) = true := fun kvs h => by simp [kOk, isTup, h]
  refine ⟨z, some (.od [(.str "all", .v (.bool (s == many))), (.str "any", .v (.bool (decide (0 < s)))), (.str "first", .v (.bool (row.getD 0 0 == 1))), (.str "most", .v (.bool (decide ((many : Int) < 2 * s))))]), ?_⟩
  simp only [List.getD_eq_getElem?_getD] at r0 hz
  simp [stK, r0, put_four, kGet, ok, flatKeys, isTup, q_mod (a := s) (b := 2) (by decide), hz]
theorem if_yes {t : EvT} {f g : EvS} {st st1 : Stt} (h : t st = some (true, st1)) : sIf t f g st = f st1 := by
  rw [q_if, h]
  rfl
theorem if_no {t : EvT} {f g : EvS} {st st1 : Stt} (h : t st = some (false, st1)) : sIf t f g st = g st1 := by
  rw [q_if, h]
  rfl
theorem seq_nx {f g : EvS} {st st1 : Stt} (h : f st = some (.nx, st1)) : seq f g st = g st1 := by
  rw [q_seq, h]
  rfl
theorem seq_rt {f g : EvS} {st st1 : Stt} {o : O} (h : f st = some (.rt o, st1)) : seq f g st = some (.rt o, st1) := by
  rw [q_seq, h]
  rfl
theorem kn_word (hw : PyData.strOk w = true) (z : Str) (hz : PyData.strOk z = true) : tst (eqR false (rN 0) (rU (kst (.str z)))) (stK w many hf F row s a b c S) = some (w == z, stK w many hf F row s a b c S) := by
  simp [stK, shaped_str hw, shaped_str hz]
theorem kn_mid (hw : PyData.strOk w = true) (hb : Bits row) (hl : row.length = many) (h2 : 2 * hf ≤ row.length) (h0 : 1 ≤ many) (hm : many ≤ 20) (hp : w = Str.ofString "pick" → many = 3 ∨ many = 6) : ∃ (z : Bool) (b' c' : Option O), (sIf (tst (eqR false (rN 0) (rU (kst (.str "halves"))))) (sSet 6 (b1 kAny (rU (fz (lc (rg1 (nm 5)) (onV (gN 7)) (yes) (eqR false (rU (bin gAdd (idx (rN 3) (nm 7)) (idx (rN 3) (bin gAdd (nm 5) (nm 7))))) (rU (kst (.int 2)))) [7]))))) (sIf (tst (eqR false (rN 0) (rU (kst (.str "pick"))))) (sSet 6 (up (eqR false (rU (idx (rN 3) (bin gAdd (ifU (tst (eqR false (rN 1) (rU (kst (.int 3))))) (kst (.int 1)) (kst (.int 2))) (fz (cal 1 F__law_number (aCons (fz (slc (rN 3) (pNo) (pAt (ifU (tst (eqR false (rN 1) (rU (kst (.int 3))))) (kst (.int 1)) (kst (.int 2)))))) (aNil))))))) (rU (kst (.int 1)))))) (sIf (tst (eqR false (rN 0) (rU (kst (.str "rise"))))) (sSet 6 (up (orU (eqR false (rU (fz (b1 kList (rN 3)))) (rU (fz (b1 kSorted (rN 3))))) (eqR false (rU (fz (b1 kList (rN 3)))) (rU (fz (rev (rU (fz (b1 kSorted (rN 3))))))))))) (seq (sSet 8 (dspF [(kst (.str "all"), eqR false (rN 4) (rN 1)), (kst (.str "any"), bin iGt (nm 4) (kst (.int 0))), (kst (.str "first"), eqR false (rU (idx (rN 3) (kst (.int 0)))) (rU (kst (.int 1)))), (kst (.str "most"), bin iGt (bin gMul (kst (.int 2)) (nm 4)) (nm 1))])) (sSet 6 (up (mth kGet (rN 8) (aCons (nm 0) (aCons (eqR false (rU (bin iMod (fz (bl kInt (aCons (nm 4) (aNil)))) (kst (.int 2)))) (rU (kst (.int 1)))) (aNil)))))))))) (stK w many hf F row s a b c S) = some (.nx, stK w many hf F row s (slU (.bool z)) b' c' S) := by
  have t := fun z : String => kn_word (w := w) (many := many) (hf := hf) (F := F) (row := row) (s := s) (a := a) (b := b) (c := c) (S := S) hw (Str.ofString z) (strOk_of z)
  by_cases h1 : w = Str.ofString "halves"
  · obtain ⟨z, b', e⟩ := kn_halves (w := w) (many := many) (F := F) (s := s) (a := a) (b := b) (c := c) (S := S) h2 (by omega)
    exact ⟨z, b', c, by rw [if_yes ((t "halves").trans (by rw [beq_iff_eq.mpr h1]))]; exact e⟩
  · rw [if_no ((t "halves").trans (by rw [beq_eq_false_iff_ne.mpr h1]))]
    by_cases h3 : w = Str.ofString "pick"
    · obtain ⟨z, e⟩ := kn_pick (w := w) (hf := hf) (F := F) (s := s) (a := a) (b := b) (c := c) (S := S) hb hl (hp h3)
      exact ⟨z, b, c, by rw [if_yes ((t "pick").trans (by rw [beq_iff_eq.mpr h3]))]; exact e⟩
    · rw [if_no ((t "pick").trans (by rw [beq_eq_false_iff_ne.mpr h3]))]
      by_cases h4 : w = Str.ofString "rise"
      · obtain ⟨z, e⟩ := kn_rise (w := w) (many := many) (hf := hf) (F := F) (row := row) (s := s) (a := a) (b := b) (c := c) (S := S)
        exact ⟨z, b, c, by rw [if_yes ((t "rise").trans (by rw [beq_iff_eq.mpr h4]))]; exact e⟩
      · obtain ⟨z, c', e⟩ := kn_else (w := w) (many := many) (hf := hf) (F := F) (row := row) (s := s) (a := a) (b := b) (c := c) (S := S) (fun z => by rw [z] at hl; simp at hl; omega)
        exact ⟨z, b, c', by rw [if_no ((t "rise").trans (by rw [beq_eq_false_iff_ne.mpr h4]))]; exact e⟩
/-- what a table by a known word holds -/
def optT : Option (List Int) → PyData
  | none => .none
  | some t => tI t
theorem law_known (hw : PyData.strOk w = true) (h0 : 1 ≤ many) (hm : many ≤ 15) (S : List Cell) : ∃ r : Option (List Int), F__law_known [.v (.str w), .v (.int many)] S = some (.u (.v (optT r)), S) ∧ ∀ t, r = some t → t.length = 2 ^ many ∧ Bits t := by
  have sw := shaped_str hw
  have len : (rows many).length ≤ 32768 := by rw [rows_len]; exact two_pow_le hm
  by_cases c1 : w = Str.ofString "halves" ∧ (many : Int).fmod 2 = 1 ∨ w = Str.ofString "most" ∧ (many : Int).fmod 2 = 0
  · refine ⟨none, run_ret [slU (.str w), slU (.int many), none, none, none, none, none, none, none] rfl ?_, fun t z => nomatch z⟩
    have k : ∀ z : String, SeqAt.shaped (.str (Str.ofString z)) = true := fun z => shaped_str (strOk_of z)
    rcases c1 with ⟨rfl, c1⟩ | ⟨rfl, c1⟩
    · simp [B__law_known, k, q_mod (a := (many : Int)) (b := 2) (by decide), c1, optT]
    · have d1 : (Str.ofString "most" == Str.ofString "halves") = false := by decide
      simp [B__law_known, k, q_mod (a := (many : Int)) (b := 2) (by decide), c1, optT, d1]
  have ne : ∀ z : String, w ≠ Str.ofString z → (w == Str.ofString z) = false := fun z h => beq_eq_false_iff_ne.mpr h
  have k : ∀ z : String, SeqAt.shaped (.str (Str.ofString z)) = true := fun z => shaped_str (strOk_of z)
  have m2 := q_mod (a := (many : Int)) (b := 2) (by decide)
  have x2 : (many : Int).fmod 2 = 0 ∨ (many : Int).fmod 2 = 1 := by
    have := Int.fmod_nonneg_of_pos (many : Int) (show (0 : Int) < 2 by decide)
    have := Int.fmod_lt_of_pos (many : Int) (show (0 : Int) < 2 by decide)
    omega
  have t1 : (orT (andT (tst (eqR false (rN 0) (rU (kst (.str "halves"))))) (tst (eqR false (rU (bin iMod (fz (bl kInt (aCons (nm 1) (aNil)))) (kst (.int 2)))) (rU (kst (.int 1)))))) (andT (tst (eqR false (rN 0) (rU (kst (.str "most"))))) (tst (eqR false (rU (bin iMod (fz (bl kInt (aCons (nm 1) (aNil)))) (kst (.int 2)))) (rU (kst (.int 0))))))) ⟨[slU (.str w), slU (.int many), none, none, none, none, none, none, none], S, []⟩ = some (false, ⟨[slU (.str w), slU (.int many), none, none, none, none, none, none, none], S, []⟩) := by
    by_cases h1 : w = Str.ofString "halves"
    · have x3 : (many : Int).fmod 2 = 0 := by
        rcases x2 with q | q
        · exact q
        · exact absurd (.inl ⟨h1, q⟩) c1
      subst h1
      have d1 : (Str.ofString "halves" == Str.ofString "most") = false := by decide
      simp [k, m2, x3, d1]
    · by_cases h2 : w = Str.ofString "most"
      · have x3 : (many : Int).fmod 2 = 1 := by
          rcases x2 with q | q
          · exact absurd (.inr ⟨h2, q⟩) c1
          · exact q
        subst h2
        simp [k, m2, x3, ne _ h1]
      · simp [k, sw, m2, ne _ h1, ne _ h2]
  by_cases c2 : w = Str.ofString "pick" ∧ ¬ (many = 3 ∨ many = 6)
  · refine ⟨none, run_ret [slU (.str w), slU (.int many), none, none, none, none, none, none, none] rfl ?_, fun t z => nomatch z⟩
    obtain ⟨h3, h4⟩ := c2
    have a1 : ((3 : Int) == (many : Int)) = false := by rw [beq_eq_false_iff_ne]; omega
    have a2 : ((6 : Int) == (many : Int)) = false := by rw [beq_eq_false_iff_ne]; omega
    have sh36 : SeqAt.shaped (.tuple [.int 3, .int 6]) = true := rfl
    have t2 : (andT (tst (eqR false (rN 0) (rU (kst (.str "pick"))))) (tst (isIn true (nm 1) (rU (tupF (aCons (kst (.int 3)) (aCons (kst (.int 6)) (aNil)))))))) ⟨[slU (.str w), slU (.int many), none, none, none, none, none, none, none], S, []⟩ = some (true, ⟨[slU (.str w), slU (.int many), none, none, none, none, none, none, none], S, []⟩) := by
      subst h3
      simp [k, sh36, a1, a2, lineOk_of (show 2 ≤ 16777216 by omega), gIn]
    unfold B__law_known
    rw [seq_nx ((if_no t1).trans q_nil), seq_rt ((if_yes t2).trans rfl)]
    exact ⟨_, _, rfl⟩
  have hp : w = Str.ofString "pick" → many = 3 ∨ many = 6 := fun h => Decidable.byContradiction fun z => c2 ⟨h, z⟩
  have t2 : (andT (tst (eqR false (rN 0) (rU (kst (.str "pick"))))) (tst (isIn true (nm 1) (rU (tupF (aCons (kst (.int 3)) (aCons (kst (.int 6)) (aNil)))))))) ⟨[slU (.str w), slU (.int many), none, none, none, none, none, none, none], S, []⟩ = some (false, ⟨[slU (.str w), slU (.int many), none, none, none, none, none, none, none], S, []⟩) := by
    have sh36 : SeqAt.shaped (.tuple [.int 3, .int 6]) = true := rfl
    by_cases h3 : w = Str.ofString "pick"
    · have a1 : ((3 : Int) == (many : Int)) = true ∨ ((6 : Int) == (many : Int)) = true := by
        rcases hp h3 with rfl | rfl
        · exact .inl rfl
        · exact .inr rfl
      subst h3
      rcases a1 with a1 | a1 <;> simp [k, sh36, a1, lineOk_of (show 2 ≤ 16777216 by omega), gIn]
    · simp [k, sw, ne _ h3]
  obtain ⟨hf, hd, hh⟩ : ∃ hf : Nat, (many : Int).fdiv 2 = hf ∧ 2 * hf ≤ many := ⟨many / 2, by rw [Int.fdiv_eq_ediv_of_nonneg _ (by decide)]; rfl, by omega⟩
  have loop := loopI (α := List Int) (b := (seq (sAsg (tupF (aCons (fz (b1 kSum (rN 3))) (aCons (bin iDiv (nm 1) (kst (.int 2))) (aNil)))) (gT 2 (gCo (gN 4) (gCo (gN 5) (gNo))))) (seq (sIf (tst (eqR false (rN 0) (rU (kst (.str "halves"))))) (sSet 6 (b1 kAny (rU (fz (lc (rg1 (nm 5)) (onV (gN 7)) (yes) (eqR false (rU (bin gAdd (idx (rN 3) (nm 7)) (idx (rN 3) (bin gAdd (nm 5) (nm 7))))) (rU (kst (.int 2)))) [7]))))) (sIf (tst (eqR false (rN 0) (rU (kst (.str "pick"))))) (sSet 6 (up (eqR false (rU (idx (rN 3) (bin gAdd (ifU (tst (eqR false (rN 1) (rU (kst (.int 3))))) (kst (.int 1)) (kst (.int 2))) (fz (cal 1 F__law_number (aCons (fz (slc (rN 3) (pNo) (pAt (ifU (tst (eqR false (rN 1) (rU (kst (.int 3))))) (kst (.int 1)) (kst (.int 2)))))) (aNil))))))) (rU (kst (.int 1)))))) (sIf (tst (eqR false (rN 0) (rU (kst (.str "rise"))))) (sSet 6 (up (orU (eqR false (rU (fz (b1 kList (rN 3)))) (rU (fz (b1 kSorted (rN 3))))) (eqR false (rU (fz (b1 kList (rN 3)))) (rU (fz (rev (rU (fz (b1 kSorted (rN 3))))))))))) (seq (sSet 8 (dspF [(kst (.str "all"), eqR false (rN 4) (rN 1)), (kst (.str "any"), bin iGt (nm 4) (kst (.int 0))), (kst (.str "first"), eqR false (rU (idx (rN 3) (kst (.int 0)))) (rU (kst (.int 1)))), (kst (.str "most"), bin iGt (bin gMul (kst (.int 2)) (nm 4)) (nm 1))])) (sSet 6 (up (mth kGet (rN 8) (aCons (nm 0) (aCons (eqR false (rU (bin iMod (fz (bl kInt (aCons (nm 4) (aNil)))) (kst (.int 2)))) (rU (kst (.int 1)))) (aNil)))))))))) (sDo (up (lmt kAppend (rN 2) (aCons (fz (bl kInt (aCons (nm 6) (aNil)))) (aNil)))))))) (fun r => .v (.v (tI r)))
    (fun pre st => ∃ (found : List Int) (a b c d e f : Option O), found.length = pre.length ∧ Bits found ∧ st = ⟨[slU (.str w), slU (.int many), some (.ol (found.map .int)), a, b, c, d, e, f], S, []⟩) (g := onV (gN 3)) (rows many) ⟨[slU (.str w), slU (.int many), some (.ol []), none, none, none, none, none, none], S, []⟩
    ⟨[], _, _, _, _, _, _, rfl, (fun _ z => nomatch z), rfl⟩ (by
      rintro pre row post st e ⟨found, a, b, c, d, e', f, hl, hb, rfl⟩
      have mem : row ∈ rows many := by rw [e]; simp
      have lr := rows_mem _ row mem
      obtain ⟨z, b', c', em⟩ := kn_mid (w := w) (many := many) (hf := hf) (F := found.map .int) (row := row) (s := row.sum) (a := d) (b := e') (c := f) (S := S) hw (rows_bits _ row mem) lr (by omega) h0 (by omega) hp
      have l1 := pre_le e
      refine ⟨_, ⟨[slU (.str w), slU (.int many), some (.ol ((found ++ [if z then 1 else 0]).map .int)), slU (tI row), slU (.int row.sum), slU (.int hf), slU (.bool z), b', c'], S, []⟩, rfl, .inl ?_, found ++ [if z then 1 else 0], _, _, _, _, _, _, by simp [hl], ?_, rfl⟩
      · rw [seq_nx (st1 := stK w many hf (found.map .int) row row.sum d e' f S) (by simp [stK, kSum, intsOf_map, q_div (a := (many : Int)) (b := 2) (by decide) (by decide), hd, lineOk_of (show 2 ≤ 16777216 by omega)]), seq_nx em]
        simp [stK, lineOk_of (show found.length + 1 ≤ 16777216 by omega)]
      · intro x hx
        rcases List.mem_append.mp hx with hx | hx
        · exact hb x hx
        · cases z <;> simp at hx <;> simp [hx])
  obtain ⟨st', el, found, a, b, c, d, e', f, hl, hb, rfl⟩ := loop
  refine ⟨some found, run_ret [slU (.str w), slU (.int many), none, none, none, none, none, none, none] rfl ?_, fun t z => ?_⟩
  · unfold B__law_known
    rw [seq_nx ((if_no t1).trans q_nil), seq_nx ((if_no t2).trans q_nil)]
    have fm : (fun x => Itm.v (U.v x)) ∘ tI = fun r : List Int => Itm.v (U.v (tI r)) := rfl
    simp [lineOk_of (show 0 ≤ 16777216 by omega), law_rows (show many ≤ 19 by omega), fm, el, kTuple, optT]
  · cases z
    exact ⟨hl.trans (rows_len many), hb⟩
end
end Sp

namespace Sp
open PySem L2 MP Sh

/-! ## tables -/
/-- what stands while a table is made -/
abbrev rT (l many : Nat) (way : Int) (rws wds : List PyData) (tb : PyData) (c6 c7 c8 c9 c10 c11 c12 c13 c14 : Option O) : List (Option O) := [some (.u (.ref l)), slU (.int many), slU (.int way), slU (.list rws), slU (.list wds), slU tb, c6, c7, c8, c9, c10, c11, c12, c13, c14]
section
variable {l d many : Nat} {way : Int} {wds : List PyData} {tb : PyData} {S : List Cell} {c6 c7 c8 c9 c10 c11 c12 c13 c14 : Option O}
/-- many bits, drawn -/
theorem bits_of (h : Mill S l d) {α : Type} (it : α → PyData) (xs : List α) {r0 : List (Option O)} {i : Nat} {st : Stt} {h0 : List O} {f : EvI} (hf : f st = some (xs.map fun x => .v (.v (it x)), ⟨r0, S, h0⟩)) (hi : i < r0.length) (h00 : r0[0]? = some (some (.u (.ref l)))) (hi0 : i ≠ 0) (hl : xs.length ≤ 16777215) :
    ∃ (t : List Int) (S' : List Cell), lc f (onV (gN i)) yes (fz (cal 2 F__law_take (aCons (nm 0) (aCons (kst (.int 2)) (aNil))))) [i] st = some (.ol (t.map .int), ⟨r0.set i (keepU r0[i]?), S', h0⟩) ∧ t.length = xs.length ∧ Bits t ∧ Mill S' l d ∧ Same S S' l d := by
  obtain ⟨out, S', e, t, rfl, hl', hb, M', sm⟩ := lcI it (fun pre acc S' => ∃ t : List Int, acc = t.map .int ∧ t.length = pre.length ∧ Bits t ∧ Mill S' l d ∧ Same S S' l d) xs (e := (fz (cal 2 F__law_take (aCons (nm 0) (aCons (kst (.int 2)) (aNil)))))) hf hi ⟨[], rfl, rfl, (fun _ z => nomatch z), h, .refl S l d⟩ hl (by
    rintro pre x post acc S1 e ⟨t, rfl, hl1, hb, M1, sm1⟩ h1
    obtain ⟨r, S2, e2, ⟨q0, q1⟩, M2, sm2⟩ := law_take M1 (many := 2) (by decide) (by decide)
    have g0 : (r0.set i (slU (it x)))[0]? = some (some (.u (.ref l))) := by rw [List.getElem?_set_ne hi0]; exact h00
    refine ⟨.int r, S2, ?_, t ++ [r], by simp, by simp [hl1], ?_, M2, sm1.trans sm2⟩
    · simp [h00, e2, List.getElem?_set, hi0]
    · intro y hy
      rcases List.mem_append.mp hy with hy | hy
      · exact hb y hy
      · simp at hy
        omega)
  exact ⟨t, S', e, hl', hb, M', sm⟩
theorem tb_A0 (h : Mill S l d) (hm : many ≤ 15) : ∃ (t : List Int) (o6 : Option O) (S' : List Cell), (sSet 5 (b1 kTuple (rU (fz (lc (vals (nm 3)) (onV (gN 6)) (yes) (fz (cal 2 F__law_take (aCons (nm 0) (aCons (kst (.int 2)) (aNil))))) [6]))))) ⟨rT l many way ((rows many).map tI) wds tb c6 c7 c8 c9 c10 c11 c12 c13 c14, S, []⟩ = some (.nx, ⟨rT l many way ((rows many).map tI) wds (tI t) o6 c7 c8 c9 c10 c11 c12 c13 c14, S', []⟩) ∧ t.length = 2 ^ many ∧ Bits t ∧ Mill S' l d ∧ Same S S' l d := by
  have len : (rows many).length ≤ 32768 := by rw [rows_len]; exact two_pow_le hm
  obtain ⟨t, S', e, h1, h2, h3, h4⟩ := bits_of h tI (rows many) (i := 6) (st := ⟨rT l many way ((rows many).map tI) wds tb c6 c7 c8 c9 c10 c11 c12 c13 c14, S, []⟩) (f := vals (nm 3)) (r0 := rT l many way ((rows many).map tI) wds tb c6 c7 c8 c9 c10 c11 c12 c13 c14) (h0 := []) (by simp [Function.comp_def]) (by simp) rfl (by decide) (by omega)
  refine ⟨t, keepU (some c6), S', ?_, h1.trans (rows_len many), h2, h3, h4⟩
  simp [e, kTuple, keepU]
theorem flat_rep {α : Type} (x : α) : ∀ n, (List.replicate n [x]).flatten = List.replicate n x
  | 0 => rfl
  | n + 1 => by rw [List.replicate_succ, List.flatten_cons, flat_rep x n]; rfl
theorem tb_A1 (h : Mill S l d) (hm : many ≤ 9) : ∃ (t : List Int) (S' : List Cell), (sSet 5 (up (bin gMul (tupF (aCons (fz (cal 2 F__law_take (aCons (nm 0) (aCons (kst (.int 2)) (aNil))))) (aNil))) (fz (b1 kLen (rN 3)))))) ⟨rT l many way ((rows many).map tI) wds tb c6 c7 c8 c9 c10 c11 c12 c13 c14, S, []⟩ = some (.nx, ⟨rT l many way ((rows many).map tI) wds (tI t) c6 c7 c8 c9 c10 c11 c12 c13 c14, S', []⟩) ∧ t.length = 2 ^ many ∧ Bits t ∧ Mill S' l d ∧ Same S S' l d := by
  have len : (rows many).length ≤ 512 := by rw [rows_len]; exact two_pow_le hm
  have pos : 1 ≤ (rows many).length := by rw [rows_len]; exact Nat.one_le_two_pow
  obtain ⟨r, S2, e2, ⟨q0, q1⟩, M2, sm2⟩ := law_take h (many := 2) (by decide) (by decide)
  refine ⟨List.replicate (rows many).length r, S2, ?_, by rw [List.length_replicate, rows_len], fun x hx => ?_, M2, sm2⟩
  · have p1 : (1 : Int) ≤ ((rows many).length : Int) := by omega
    have p2 : ((rows many).length : Int) ≤ 1000 := by omega
    have mul : gMul (.v (.tuple [.int r])) (.v (.int ((rows many).length : Int))) = some (.v (tI (List.replicate (rows many).length r))) := by
      show (if (decide ([PyData.int r] ≠ []) && decide ((1 : Int) ≤ ((rows many).length : Int)) && decide (((rows many).length : Int) ≤ 1000) && decide ([PyData.int r].length ≤ 1000)) = true then _ else _) = _
      rw [if_pos (by simp [p2]; omega), Int.toNat_natCast, flat_rep, tI, List.map_replicate]
    simp [e2, lineOk_of (show 1 ≤ 16777216 by omega), mul]
  · have := List.eq_of_mem_replicate hx
    omega
theorem drawn_rows (h : Mill S l d) (hm : many ≤ 15) {r0 : List (Option O)} (hr : r0 = rT l many way ((rows many).map tI) wds tb c6 c7 c8 c9 c10 c11 c12 c13 c14) : ∃ (ws : List (List Int)) (o : Option O) (S' : List Cell), (lc (rg1 (bin gAdd (kst (.int 1)) (fz (cal 2 F__law_take (aCons (nm 0) (aCons (kst (.int 3)) (aNil))))))) (onV (gN 11)) (yes) (fz (cal 2 F__law_one (aCons (nm 0) (aCons (nm 3) (aNil))))) [11]) ⟨r0, S, []⟩ = some (.ol (ws.map tI), ⟨rT l many way ((rows many).map tI) wds tb c6 c7 c8 c9 c10 o c12 c13 c14, S', []⟩) ∧ ws.length ≤ 3 ∧ (∀ x ∈ ws, x ∈ rows many) ∧ Mill S' l d ∧ Same S S' l d := by
  subst hr
  have len : (rows many).length ≤ 32768 := by rw [rows_len]; exact two_pow_le hm
  have pos : 1 ≤ (rows many).length := by rw [rows_len]; exact Nat.one_le_two_pow
  obtain ⟨r, S1, e1, ⟨q0, q1⟩, M1, sm1⟩ := law_take h (many := 3) (by decide) (by decide)
  have e2 : rg1 (bin gAdd (kst (.int 1)) (fz (cal 2 F__law_take (aCons (nm 0) (aCons (kst (.int 3)) (aNil)))))) ⟨rT l many way ((rows many).map tI) wds tb c6 c7 c8 c9 c10 c11 c12 c13 c14, S, []⟩ = some (rgN (r.toNat + 1), ⟨rT l many way ((rows many).map tI) wds tb c6 c7 c8 c9 c10 c11 c12 c13 c14, S1, []⟩) := by
    refine q_rg1n (n := r.toNat + 1) ?_ (by omega)
    have : (1 : Int) + r = ((r.toNat + 1 : Nat) : Int) := by omega
    simp only [← this]
    simp [e1]
  obtain ⟨out, S2, e3, ws, rfl, hl, hw, M2, sm2⟩ := lcI (fun x : Nat => PyData.int (x : Nat)) (fun pre acc S' => ∃ ws : List (List Int), acc = ws.map tI ∧ ws.length = pre.length ∧ (∀ x ∈ ws, x ∈ rows many) ∧ Mill S' l d ∧ Same S S' l d) (List.range (r.toNat + 1)) (i := 11) (e := (fz (cal 2 F__law_one (aCons (nm 0) (aCons (nm 3) (aNil)))))) e2 (by simp) ⟨[], rfl, rfl, (fun _ z => nomatch z), M1, sm1⟩ (by rw [List.length_range]; omega) (by
    rintro pre x post acc S' e ⟨ws, rfl, hl, hw, M', sm'⟩ h1
    obtain ⟨y, S2, hy, e4, M2, sm2⟩ := law_one M' (ds := (rows many).map tI) (fun z => by simp at z; rw [z] at pos; exact absurd pos (by decide)) (by rw [List.length_map]; omega)
    obtain ⟨row, hrow, rfl⟩ := List.mem_map.mp hy
    refine ⟨tI row, S2, ?_, ws ++ [row], by simp, by simp [hl], ?_, M2, sm'.trans sm2⟩
    · simp [e4]
    · intro z hz
      rcases List.mem_append.mp hz with hz | hz
      · exact hw z hz
      · rw [List.mem_singleton.mp hz]
        exact hrow)
  refine ⟨ws, keepU (some c11), S2, e3, ?_, hw, M2, sm2⟩
  rw [hl, List.length_range]
  omega
theorem tb_A3 (h : Mill S l d) (hm : many ≤ 15) : ∃ (t : List Int) (o6 o10 o11 o12 : Option O) (S' : List Cell), (seq (sSet 10 (lc (rg1 (bin gAdd (kst (.int 1)) (fz (cal 2 F__law_take (aCons (nm 0) (aCons (kst (.int 3)) (aNil))))))) (onV (gN 11)) (yes) (fz (cal 2 F__law_one (aCons (nm 0) (aCons (nm 3) (aNil))))) [11])) (sSet 5 (b1 kTuple (rU (fz (lc (vals (nm 3)) (onV (gN 6)) (yes) (fz (bl kInt (aCons (fz (b1 kAny (rU (fz (lc (vals (nm 10)) (onV (gN 12)) (yes) (fz (cal 2 F__law_is_above (aCons (nm 6) (aCons (nm 12) (aNil))))) [12]))))) (aNil)))) [6])))))) ⟨rT l many way ((rows many).map tI) wds tb c6 c7 c8 c9 c10 c11 c12 c13 c14, S, []⟩ = some (.nx, ⟨rT l many way ((rows many).map tI) wds (tI t) o6 c7 c8 c9 o10 o11 o12 c13 c14, S', []⟩) ∧ t.length = 2 ^ many ∧ Bits t ∧ Mill S' l d ∧ Same S S' l d := by
  have len : (rows many).length ≤ 32768 := by rw [rows_len]; exact two_pow_le hm
  obtain ⟨ws, o, S1, e1, hw1, hw2, M1, sm1⟩ := drawn_rows h hm (way := way) (wds := wds) (tb := tb) (c6 := c6) (c7 := c7) (c8 := c8) (c9 := c9) (c10 := c10) (c11 := c11) (c12 := c12) (c13 := c13) (c14 := c14) rfl
  obtain ⟨out, r', S2, e2, t, o10, x12, rfl, hl, hb, rfl, h10, rfl⟩ := lcG tI (fun pre acc r S' => ∃ (t : List Int) (o10 x12 : Option O), acc = t.map .int ∧ t.length = pre.length ∧ Bits t ∧ S' = S1 ∧ (o10 = some (.ol (ws.map tI)) ∨ o10 = slU (.list (ws.map tI))) ∧ r = rT l many way ((rows many).map tI) wds tb none c7 c8 c9 o10 o x12 c13 c14) (rows many) (i := 6) (st := ⟨rT l many way ((rows many).map tI) wds tb c6 c7 c8 c9 (some (.ol (ws.map tI))) o c12 c13 c14, S1, []⟩) (f := vals (nm 3)) (e := (fz (bl kInt (aCons (fz (b1 kAny (rU (fz (lc (vals (nm 10)) (onV (gN 12)) (yes) (fz (cal 2 F__law_is_above (aCons (nm 6) (aCons (nm 12) (aNil))))) [12]))))) (aNil))))) (r0 := rT l many way ((rows many).map tI) wds tb c6 c7 c8 c9 (some (.ol (ws.map tI))) o c12 c13 c14) (h := []) (S := S1) (by simp [Function.comp_def]) ⟨[], _, _, rfl, rfl, (fun _ z => nomatch z), rfl, .inl rfl, rfl⟩ (by omega) (by
      rintro pre acc r S' ⟨t, o10, x12, -, -, -, -, -, rfl⟩
      simp) (by
      rintro pre row post acc r S' e ⟨t, o10, x12, rfl, hl, hb, rfl, h10, rfl⟩ h1
      have mem : row ∈ rows many := by rw [e]; simp
      have lr := rows_mem _ row mem
      obtain ⟨q, hq⟩ : ∃ q : List Int → Bool, ∀ w, q w = above row w := ⟨_, fun _ => rfl⟩
      have hf : vals (nm 10) ⟨rT l many way ((rows many).map tI) wds tb (slU (tI row)) c7 c8 c9 o10 o x12 c13 c14, S', h1⟩ = some (ws.map (fun x => Itm.v (.v (tI x))), ⟨rT l many way ((rows many).map tI) wds tb (slU (tI row)) c7 c8 c9 (slU (.list (ws.map tI))) o x12 c13 c14, S', h1⟩) := by
        rcases h10 with rfl | rfl <;> simp [Function.comp_def]
      have e3 := lcV1 (i := 12) (e := (fz (cal 2 F__law_is_above (aCons (nm 6) (aCons (nm 12) (aNil)))))) tI (fun w => .bool (q w)) ws hf (by simp) (fun w hw h => by simp [hq, law_is_above (show row.length ≤ 1000 by omega)]) (by omega)
      have e4 := boolsOf_map (ws.map q)
      rw [List.map_map] at e4
      simp only [Function.comp_def] at e4
      refine ⟨.int (if ws.any q then 1 else 0), rT l many way ((rows many).map tI) wds tb (slU (tI row)) c7 c8 c9 (slU (.list (ws.map tI))) o (keepU (some x12)) c13 c14, S', ?_, t ++ [if ws.any q then 1 else 0], _, keepU (some x12), by simp, by simp [hl], ?_, rfl, .inr rfl, rfl⟩
      · simp [e3, kAny, e4, keepU]
      · intro x hx
        rcases List.mem_append.mp hx with hx | hx
        · exact hb x hx
        · cases hz : ws.any q <;> simp [hz] at hx <;> simp [hx])
  refine ⟨t, keepU (some c6), o10, o, x12, S2, ?_, hl.trans (rows_len many), hb, M1, sm1⟩
  rw [seq_nx (st1 := ⟨rT l many way ((rows many).map tI) wds tb c6 c7 c8 c9 (some (.ol (ws.map tI))) o c12 c13 c14, S2, []⟩) (by rw [q_set, e1]; rfl)]
  simp [e2, kTuple, keepU]
theorem rg_data (n : Nat) : rgP 0 (n : Int) = (List.range n).map fun i => PyData.int (i : Nat) := by
  unfold rgP
  simp
abbrev pD (ps : List Nat) : List PyData := ps.map fun p => .int (p : Nat)
/-- a drawn lot of places -/
theorem tb_lot (h : Mill S l d) (h0 : 1 ≤ many) (hm : many ≤ 15) : ∃ (ps : List Nat) (S' : List Cell), (slc (rU (fz (cal 2 F__law_mixed (aCons (nm 0) (aCons (fz (lrg1 (nm 1))) (aNil)))))) (pNo) (pAt (bin gAdd (kst (.int 1)) (fz (cal 2 F__law_take (aCons (nm 0) (aCons (nm 1) (aNil)))))))) ⟨rT l many way ((rows many).map tI) wds tb c6 c7 c8 c9 c10 c11 c12 c13 c14, S, []⟩ = some (.ol (pD ps), ⟨rT l many way ((rows many).map tI) wds tb c6 c7 c8 c9 c10 c11 c12 c13 c14, S', []⟩) ∧ ps.length ≤ many ∧ (∀ p ∈ ps, p < many) ∧ Mill S' l d ∧ Same S S' l d := by
  obtain ⟨es, S1, pm, e1, M1, sm1⟩ := law_mixed h (ds := (List.range many).map fun i => PyData.int (i : Nat)) (by simp; omega) (by simp [flatD])
  obtain ⟨r, S2, e2, ⟨q0, q1⟩, M2, sm2⟩ := law_take M1 (many := (many : Int)) (by omega) (by omega)
  have le : es.length = many := by rw [pm.length_eq]; simp
  have ct := cut_to (α := es) (p := r.toNat + 1) (by omega)
  have cast : ((r.toNat + 1 : Nat) : Int) = 1 + r := by omega
  rw [cast] at ct
  have all : ∀ x ∈ es.take (r.toNat + 1), ∃ p : Nat, p < many ∧ x = PyData.int (p : Nat) := fun x hx => by
    have := pm.mem_iff.mp (List.mem_of_mem_take hx)
    obtain ⟨p, hp, rfl⟩ := List.mem_map.mp this
    exact ⟨p, List.mem_range.mp hp, rfl⟩
  have mk : ∀ xs : List PyData, (∀ x ∈ xs, ∃ p : Nat, p < many ∧ x = PyData.int (p : Nat)) → ∃ ps : List Nat, xs = pD ps ∧ ∀ p ∈ ps, p < many := by
    intro xs
    induction xs with
    | nil => exact fun _ => ⟨[], rfl, fun _ z => nomatch z⟩
    | cons x xs ih =>
      intro hx
      obtain ⟨p, hp, rfl⟩ := hx x List.mem_cons_self
      obtain ⟨ps, rfl, hps⟩ := ih fun y hy => hx y (List.mem_cons_of_mem _ hy)
      exact ⟨p :: ps, rfl, fun q hq => (List.mem_cons.mp hq).elim (fun e => e ▸ hp) (hps q)⟩
  obtain ⟨ps, e3, hps⟩ := mk _ all
  refine ⟨ps, S2, ?_, ?_, hps, M2, sm1.trans sm2⟩
  · have ok : rgOk 0 (many : Int) = true := by
      simp only [rgOk, Bool.and_eq_true, decide_eq_true_eq]
      omega
    simp [lrg1, ok, rg_data, e1, e2, ct, e3]
  · have := congrArg List.length e3
    rw [List.length_take, List.length_map] at this
    omega
/-- a row's part at the lot's places -/
def part (ps : List Nat) (row : List Int) : List Int := ps.map fun p => row.getD p 0
theorem tb_key {ps : List Nat} {row : List Int} {h : List O} (hp : ∀ p ∈ ps, p < row.length) (hl : ps.length ≤ 1000) (h7 : c7 = some (.ol (pD ps)) ∨ c7 = slU (.list (pD ps))) : ∃ o9, (fz (b1 kTuple (rU (fz (lc (vals (nm 7)) (onV (gN 9)) (yes) (idx (rN 6) (nm 9)) [9]))))) ⟨rT l many way ((rows many).map tI) wds tb (slU (tI row)) c7 c8 c9 c10 c11 c12 c13 c14, S, h⟩ = some (.v (tI (part ps row)), ⟨rT l many way ((rows many).map tI) wds tb (slU (tI row)) (slU (.list (pD ps))) c8 o9 c10 c11 c12 c13 c14, S, h⟩) := by
  have hf : vals (nm 7) ⟨rT l many way ((rows many).map tI) wds tb (slU (tI row)) c7 c8 c9 c10 c11 c12 c13 c14, S, h⟩ = some (ps.map (fun x => Itm.v (.v (.int (x : Nat)))), ⟨rT l many way ((rows many).map tI) wds tb (slU (tI row)) (slU (.list (pD ps))) c8 c9 c10 c11 c12 c13 c14, S, h⟩) := by
    rcases h7 with rfl | rfl <;> simp [Function.comp_def]
  obtain ⟨q, hq⟩ : ∃ q : Nat → Int, ∀ p, q p = row.getD p 0 := ⟨_, fun _ => rfl⟩
  have e3 := lcV1 (i := 9) (e := (idx (rN 6) (nm 9))) (fun x : Nat => PyData.int (x : Nat)) (fun p => .int (q p)) ps hf (by simp) (fun p hpp h => by
    have := atI_map (row := row) (p := (p : Int)) (by omega) (by simpa using hp p hpp)
    simp only [Int.toNat_natCast] at this
    simp [this, hq, List.getD_eq_getElem?_getD, List.getElem?_eq_getElem (hp p hpp)]) (by omega)
  refine ⟨keepU (some c9), ?_⟩
  have ek : tI (part ps row) = .tuple (ps.map fun p => .int (q p)) := by
    unfold tI part
    rw [List.map_map]
    exact congrArg PyData.tuple (List.map_congr_left fun p _ => by simp [hq])
  rw [ek]
  simp [e3, kTuple, keepU]
theorem nk_int : ∀ a : Int, ∃ k, nk (.int a) = some k ∧ k.depth = 0 := fun a => ⟨.num a, rfl, rfl⟩
theorem nk_int_inj : ∀ a b : Int, nk (.int a) = nk (.int b) → a = b := fun a b h => by
  injection h with h
  injection h
theorem kf_tI (k : List Int) : (kf (tI k)).isSome = true := kf_tup PyData.int nk_int nk_int_inj k
theorem kf_tI_inj {k k' : List Int} (h : kf (tI k) = kf (tI k')) : k = k' := kf_inj PyData.int nk_int nk_int_inj h
theorem tups_ok {kvs : List (PyData × U)} (h : tupKeys kvs = true) (k : List Int) : kOk kvs (tI k) = true := by
  simp [kOk, h, kf_tI, isTup]
/-- the loop by which way 2 fills its cells -/
theorem tb_fill (h : Mill S l d) (hm : many ≤ 15) {ps : List Nat} (hp : ∀ p ∈ ps, p < many) (hl : ps.length ≤ many) (h7 : c7 = some (.ol (pD ps)) ∨ c7 = slU (.list (pD ps))) :
    ∃ (kvs : List (PyData × U)) (o6 o7 o9 : Option O) (S' : List Cell), fLoop (onV (gN 6)) (sDo (up (sdf (rN 8) (aCons (fz (b1 kTuple (rU (fz (lc (vals (nm 7)) (onV (gN 9)) (yes) (idx (rN 6) (nm 9)) [9]))))) (aCons (fz (cal 2 F__law_take (aCons (nm 0) (aCons (kst (.int 2)) (aNil))))) (aNil)))))) ((rows many).map fun r => Itm.v (.v (tI r))) ⟨rT l many way ((rows many).map tI) wds tb c6 c7 (some (.od [])) c9 c10 c11 c12 c13 c14, S, []⟩ = some (.nx, ⟨rT l many way ((rows many).map tI) wds tb o6 o7 (some (.od kvs)) o9 c10 c11 c12 c13 c14, S', []⟩) ∧
      (o7 = some (.ol (pD ps)) ∨ o7 = slU (.list (pD ps))) ∧ tupKeys kvs = true ∧ (∀ row ∈ rows many, ∃ z : Int, dget kvs (tI (part ps row)) = some (.v (.int z)) ∧ (z = 0 ∨ z = 1)) ∧ Mill S' l d ∧ Same S S' l d := by
  have len : (rows many).length ≤ 32768 := by rw [rows_len]; exact two_pow_le hm
  obtain ⟨st', e, kvs, o6, o7, o9, S', rfl, h7', tk, hlen, hv, hall, M', sm⟩ := loopI (α := List Int) (b := (sDo (up (sdf (rN 8) (aCons (fz (b1 kTuple (rU (fz (lc (vals (nm 7)) (onV (gN 9)) (yes) (idx (rN 6) (nm 9)) [9]))))) (aCons (fz (cal 2 F__law_take (aCons (nm 0) (aCons (kst (.int 2)) (aNil))))) (aNil))))))) (fun r => .v (.v (tI r)))
    (fun pre st => ∃ (kvs : List (PyData × U)) (o6 o7 o9 : Option O) (S' : List Cell), st = ⟨rT l many way ((rows many).map tI) wds tb o6 o7 (some (.od kvs)) o9 c10 c11 c12 c13 c14, S', []⟩ ∧
      (o7 = some (.ol (pD ps)) ∨ o7 = slU (.list (pD ps))) ∧ tupKeys kvs = true ∧ kvs.length ≤ pre.length ∧ (∀ (k : List Int) (y : U), dget kvs (tI k) = some y → ∃ z : Int, y = .v (.int z) ∧ (z = 0 ∨ z = 1)) ∧ (∀ row ∈ pre, (dget kvs (tI (part ps row))).isSome = true) ∧ Mill S' l d ∧ Same S S' l d)
    (g := onV (gN 6)) (rows many) ⟨rT l many way ((rows many).map tI) wds tb c6 c7 (some (.od [])) c9 c10 c11 c12 c13 c14, S, []⟩
    ⟨[], _, _, _, _, rfl, h7, rfl, Nat.zero_le _, (fun k y z => by rw [dget_nil] at z; cases z), (fun _ z => nomatch z), h, .refl S l d⟩ (by
      rintro pre row post st e ⟨kvs, o6, o7, o9, S1, rfl, h7, tk, hlen, hv, hall, M1, sm1⟩
      have mem : row ∈ rows many := by rw [e]; simp
      have lr := rows_mem _ row mem
      have l1 := pre_le e
      obtain ⟨x9, ek⟩ := tb_key (l := l) (many := many) (way := way) (wds := wds) (tb := tb) (c8 := some (.od kvs)) (c9 := o9) (c10 := c10) (c11 := c11) (c12 := c12) (c13 := c13) (c14 := c14) (S := S1) (h := []) (ps := ps) (row := row) (fun p hpp => by rw [lr]; exact hp p hpp) (by omega) h7
      obtain ⟨r, S2, e2, ⟨q0, q1⟩, M2, sm2⟩ := law_take M1 (many := 2) (by decide) (by decide)
      have sd : sdk kvs (tI (part ps row)) = true := by
        simp [sdk, isTup, tk, kf_tI]
        omega
      cases hd : dget kvs (tI (part ps row)) with
      | some y =>
        refine ⟨_, ⟨rT l many way ((rows many).map tI) wds tb (slU (tI row)) (slU (.list (pD ps))) (some (.od kvs)) x9 c10 c11 c12 c13 c14, S2, []⟩, rfl, .inl ?_, kvs, _, _, _, _, rfl, .inr rfl, tk, by simp; omega, hv, fun row' hr => ?_, M2, sm1.trans sm2⟩
        · generalize (fz (b1 kTuple (rU (fz (lc (vals (nm 7)) (onV (gN 9)) (yes) (idx (rN 6) (nm 9)) [9]))))) = kx at ek ⊢
          simp [sdf, ek, e2, sd, hd]
        · rcases List.mem_append.mp hr with hr | hr
          · exact hall _ hr
          · rw [List.mem_singleton.mp hr, hd]
            rfl
      | none =>
        refine ⟨_, ⟨rT l many way ((rows many).map tI) wds tb (slU (tI row)) (slU (.list (pD ps))) (some (.od (dput kvs (tI (part ps row)) (.v (.int r))))) x9 c10 c11 c12 c13 c14, S2, []⟩, rfl, .inl ?_, _, _, _, _, _, rfl, .inr rfl, dput_tups tk rfl, ?_, ?_, fun row' hr => ?_, M2, sm1.trans sm2⟩
        · generalize (fz (b1 kTuple (rU (fz (lc (vals (nm 7)) (onV (gN 9)) (yes) (idx (rN 6) (nm 9)) [9]))))) = kx at ek ⊢
          simp [sdf, ek, e2, sd, hd]
        · have := dput_len (kvs := kvs) (k := tI (part ps row)) (v := .v (.int r))
          simp
          omega
        · intro k y hy
          rw [dget_dput] at hy
          split at hy
          · cases hy
            exact ⟨r, rfl, by omega⟩
          · exact hv k y hy
        · rw [dget_dput]
          split
          · rfl
          · rename_i hne
            rcases List.mem_append.mp hr with hr | hr
            · exact hall _ hr
            · rw [List.mem_singleton.mp hr] at hne
              exact absurd rfl hne)
  refine ⟨kvs, o6, o7, o9, S', e, h7', tk, fun row hr => ?_, M', sm⟩
  have := hall row hr
  obtain ⟨y, hy⟩ := Option.isSome_iff_exists.mp this
  obtain ⟨z, rfl, hz⟩ := hv _ _ hy
  exact ⟨z, hy, hz⟩
theorem tb_A2 (h : Mill S l d) (h0 : 1 ≤ many) (hm : many ≤ 15) : ∃ (t : List Int) (o6 o7 o8 o9 : Option O) (S' : List Cell), (seq (sSet 7 (slc (rU (fz (cal 2 F__law_mixed (aCons (nm 0) (aCons (fz (lrg1 (nm 1))) (aNil)))))) (pNo) (pAt (bin gAdd (kst (.int 1)) (fz (cal 2 F__law_take (aCons (nm 0) (aCons (nm 1) (aNil))))))))) (seq (sSet 8 (dnew)) (seq (sFor (vals (nm 3)) (onV (gN 6)) (sDo (up (sdf (rN 8) (aCons (fz (b1 kTuple (rU (fz (lc (vals (nm 7)) (onV (gN 9)) (yes) (idx (rN 6) (nm 9)) [9]))))) (aCons (fz (cal 2 F__law_take (aCons (nm 0) (aCons (kst (.int 2)) (aNil))))) (aNil))))))) (sSet 5 (b1 kTuple (rU (fz (lc (vals (nm 3)) (onV (gN 6)) (yes) (idx (rN 8) (fz (b1 kTuple (rU (fz (lc (vals (nm 7)) (onV (gN 9)) (yes) (idx (rN 6) (nm 9)) [9])))))) [6])))))))) ⟨rT l many way ((rows many).map tI) wds tb c6 c7 c8 c9 c10 c11 c12 c13 c14, S, []⟩ = some (.nx, ⟨rT l many way ((rows many).map tI) wds (tI t) o6 o7 o8 o9 c10 c11 c12 c13 c14, S', []⟩) ∧ t.length = 2 ^ many ∧ Bits t ∧ Mill S' l d ∧ Same S S' l d := by
  have len : (rows many).length ≤ 32768 := by rw [rows_len]; exact two_pow_le hm
  obtain ⟨ps, S1, e1, hl, hp, M1, sm1⟩ := tb_lot h h0 hm (way := way) (wds := wds) (tb := tb) (c6 := c6) (c7 := c7) (c8 := c8) (c9 := c9) (c10 := c10) (c11 := c11) (c12 := c12) (c13 := c13) (c14 := c14)
  obtain ⟨kvs, o6, o7, o9, S2, e2, h7, tk, hv, M2, sm2⟩ := tb_fill M1 hm hp hl (c7 := some (.ol (pD ps))) (.inl rfl) (way := way) (wds := wds) (tb := tb) (c6 := c6) (c9 := c9) (c10 := c10) (c11 := c11) (c12 := c12) (c13 := c13) (c14 := c14)
  obtain ⟨out, r', S3, e3, t, o7', o9', rfl, ht, hb, rfl, h7', rfl⟩ := lcG tI (fun pre acc r S' => ∃ (t : List Int) (o7 o9 : Option O), acc = t.map .int ∧ t.length = pre.length ∧ Bits t ∧ S' = S2 ∧ (o7 = some (.ol (pD ps)) ∨ o7 = slU (.list (pD ps))) ∧ r = rT l many way ((rows many).map tI) wds tb none o7 (some (.od kvs)) o9 c10 c11 c12 c13 c14) (rows many) (i := 6) (st := ⟨rT l many way ((rows many).map tI) wds tb o6 o7 (some (.od kvs)) o9 c10 c11 c12 c13 c14, S2, []⟩) (f := vals (nm 3)) (e := (idx (rN 8) (fz (b1 kTuple (rU (fz (lc (vals (nm 7)) (onV (gN 9)) (yes) (idx (rN 6) (nm 9)) [9]))))))) (r0 := rT l many way ((rows many).map tI) wds tb o6 o7 (some (.od kvs)) o9 c10 c11 c12 c13 c14) (h := []) (S := S2) (by simp [Function.comp_def]) ⟨[], _, _, rfl, rfl, (fun _ z => nomatch z), rfl, h7, rfl⟩ (by omega) (by
      rintro pre acc r S' ⟨t, o7, o9, -, -, -, -, -, rfl⟩
      simp) (by
      rintro pre row post acc r S' e ⟨t, o7, o9, rfl, ht, hb, rfl, h7, rfl⟩ h1
      have mem : row ∈ rows many := by rw [e]; simp
      have lr := rows_mem _ row mem
      obtain ⟨x9, ek⟩ := tb_key (l := l) (many := many) (way := way) (wds := wds) (tb := tb) (c8 := some (.od kvs)) (c9 := o9) (c10 := c10) (c11 := c11) (c12 := c12) (c13 := c13) (c14 := c14) (S := S') (h := h1) (ps := ps) (row := row) (fun p hpp => by rw [lr]; exact hp p hpp) (by omega) h7
      obtain ⟨z, hz, hbit⟩ := hv row mem
      refine ⟨.int z, rT l many way ((rows many).map tI) wds tb (slU (tI row)) (slU (.list (pD ps))) (some (.od kvs)) x9 c10 c11 c12 c13 c14, S', ?_, t ++ [z], slU (.list (pD ps)), x9, by simp, by simp [ht], ?_, rfl, .inr rfl, rfl⟩
      · generalize (fz (b1 kTuple (rU (fz (lc (vals (nm 7)) (onV (gN 9)) (yes) (idx (rN 6) (nm 9)) [9]))))) = kx at ek ⊢
        simp [ek, tups_ok tk, hz]
      · intro x hx
        rcases List.mem_append.mp hx with hx | hx
        · exact hb x hx
        · simp at hx
          omega)
  refine ⟨t, keepU (some o6), o7', some (.od kvs), o9', S3, ?_, ht.trans (rows_len many), hb, M2, sm1.trans sm2⟩
  rw [seq_nx (st1 := ⟨rT l many way ((rows many).map tI) wds tb c6 (some (.ol (pD ps))) c8 c9 c10 c11 c12 c13 c14, S1, []⟩) (by rw [q_set, e1]; rfl)]
  rw [seq_nx (st1 := ⟨rT l many way ((rows many).map tI) wds tb c6 (some (.ol (pD ps))) (some (.od [])) c9 c10 c11 c12 c13 c14, S1, []⟩) (by simp)]
  rw [seq_nx (st1 := ⟨rT l many way ((rows many).map tI) wds tb o6 o7 (some (.od kvs)) o9 c10 c11 c12 c13 c14, S3, []⟩) (by
    rw [q_for, show vals (nm 3) ⟨rT l many way ((rows many).map tI) wds tb c6 (some (.ol (pD ps))) (some (.od [])) c9 c10 c11 c12 c13 c14, S1, []⟩ = some ((rows many).map fun r => Itm.v (.v (tI r)), ⟨rT l many way ((rows many).map tI) wds tb c6 (some (.ol (pD ps))) (some (.od [])) c9 c10 c11 c12 c13 c14, S1, []⟩) by simp [Function.comp_def], Option.bind_some]
    exact e2)]
  generalize (idx (rN 8) (fz (b1 kTuple (rU (fz (lc (vals (nm 7)) (onV (gN 9)) (yes) (idx (rN 6) (nm 9)) [9])))))) = kx at e3 ⊢
  simp [e3, kTuple, keepU]
abbrev WT (l many : Nat) (rws wds : List PyData) (tb : PyData) (S : List Cell) (st : Stt) : Prop := ∃ (way : Int) (c6 c7 c8 c9 c10 c11 c12 c13 c14 : Option O), st = ⟨rT l many way rws wds tb c6 c7 c8 c9 c10 c11 c12 c13 c14, S, []⟩
theorem tb_ways (h : Mill S l d) (h0 : 1 ≤ many) (hm : many ≤ 9) {r0 : Option (List Int)} (hr : ∀ t, r0 = some t → t.length = 2 ^ many ∧ Bits t) : ∃ (t : List Int) (st : Stt) (S' : List Cell), (sIf (orT (tst (eqR false (rN 2) (rU (kst (.int 0))))) (tst (bin gIs (nm 5) (kst .none)))) (sSet 5 (b1 kTuple (rU (fz (lc (vals (nm 3)) (onV (gN 6)) (yes) (fz (cal 2 F__law_take (aCons (nm 0) (aCons (kst (.int 2)) (aNil))))) [6]))))) (sIf (tst (eqR false (rN 2) (rU (kst (.int 1))))) (sSet 5 (up (bin gMul (tupF (aCons (fz (cal 2 F__law_take (aCons (nm 0) (aCons (kst (.int 2)) (aNil))))) (aNil))) (fz (b1 kLen (rN 3)))))) (sIf (tst (eqR false (rN 2) (rU (kst (.int 2))))) (seq (sSet 7 (slc (rU (fz (cal 2 F__law_mixed (aCons (nm 0) (aCons (fz (lrg1 (nm 1))) (aNil)))))) (pNo) (pAt (bin gAdd (kst (.int 1)) (fz (cal 2 F__law_take (aCons (nm 0) (aCons (nm 1) (aNil))))))))) (seq (sSet 8 (dnew)) (seq (sFor (vals (nm 3)) (onV (gN 6)) (sDo (up (sdf (rN 8) (aCons (fz (b1 kTuple (rU (fz (lc (vals (nm 7)) (onV (gN 9)) (yes) (idx (rN 6) (nm 9)) [9]))))) (aCons (fz (cal 2 F__law_take (aCons (nm 0) (aCons (kst (.int 2)) (aNil))))) (aNil))))))) (sSet 5 (b1 kTuple (rU (fz (lc (vals (nm 3)) (onV (gN 6)) (yes) (idx (rN 8) (fz (b1 kTuple (rU (fz (lc (vals (nm 7)) (onV (gN 9)) (yes) (idx (rN 6) (nm 9)) [9])))))) [6])))))))) (sIf (tst (eqR false (rN 2) (rU (kst (.int 3))))) (seq (sSet 10 (lc (rg1 (bin gAdd (kst (.int 1)) (fz (cal 2 F__law_take (aCons (nm 0) (aCons (kst (.int 3)) (aNil))))))) (onV (gN 11)) (yes) (fz (cal 2 F__law_one (aCons (nm 0) (aCons (nm 3) (aNil))))) [11])) (sSet 5 (b1 kTuple (rU (fz (lc (vals (nm 3)) (onV (gN 6)) (yes) (fz (bl kInt (aCons (fz (b1 kAny (rU (fz (lc (vals (nm 10)) (onV (gN 12)) (yes) (fz (cal 2 F__law_is_above (aCons (nm 6) (aCons (nm 12) (aNil))))) [12]))))) (aNil)))) [6])))))) (sNil))))) ⟨rT l many way ((rows many).map tI) wds (optT r0) c6 c7 c8 c9 c10 c11 c12 c13 c14, S, []⟩ = some (.nx, st) ∧ WT l many ((rows many).map tI) wds (tI t) S' st ∧ t.length = 2 ^ many ∧ Bits t ∧ Mill S' l d ∧ Same S S' l d := by
  have t0 : orT (tst (eqR false (rN 2) (rU (kst (.int 0))))) (tst (bin gIs (nm 5) (kst .none))) ⟨rT l many way ((rows many).map tI) wds (optT r0) c6 c7 c8 c9 c10 c11 c12 c13 c14, S, []⟩ = some (way == 0 || r0.isNone, ⟨rT l many way ((rows many).map tI) wds (optT r0) c6 c7 c8 c9 c10 c11 c12 c13 c14, S, []⟩) := by
    cases hw : way == 0 <;> cases r0 <;> simp [hw, optT]
  have tw : ∀ n : Int, tst (eqR false (rN 2) (rU (kst (.int n)))) ⟨rT l many way ((rows many).map tI) wds (optT r0) c6 c7 c8 c9 c10 c11 c12 c13 c14, S, []⟩ = some (way == n, ⟨rT l many way ((rows many).map tI) wds (optT r0) c6 c7 c8 c9 c10 c11 c12 c13 c14, S, []⟩) := fun n => by simp
  cases c0 : (way == 0 || r0.isNone) with
  | true =>
    rw [c0] at t0
    obtain ⟨t, o6, S', e, h1, h2, h3, h4⟩ := tb_A0 h (show many ≤ 15 by omega) (way := way) (wds := wds) (tb := optT r0) (c6 := c6) (c7 := c7) (c8 := c8) (c9 := c9) (c10 := c10) (c11 := c11) (c12 := c12) (c13 := c13) (c14 := c14)
    exact ⟨t, _, S', (if_yes t0).trans e, ⟨_, _, _, _, _, _, _, _, _, _, rfl⟩, h1, h2, h3, h4⟩
  | false =>
    rw [c0] at t0
    cases c1 : way == 1 with
    | true =>
      obtain ⟨t, S', e, h1, h2, h3, h4⟩ := tb_A1 h hm (way := way) (wds := wds) (tb := optT r0) (c6 := c6) (c7 := c7) (c8 := c8) (c9 := c9) (c10 := c10) (c11 := c11) (c12 := c12) (c13 := c13) (c14 := c14)
      exact ⟨t, _, S', (if_no t0).trans ((if_yes ((tw 1).trans (by rw [c1]))).trans e), ⟨_, _, _, _, _, _, _, _, _, _, rfl⟩, h1, h2, h3, h4⟩
    | false =>
      cases c2 : way == 2 with
      | true =>
        obtain ⟨t, o6, o7, o8, o9, S', e, h1, h2, h3, h4⟩ := tb_A2 h h0 (show many ≤ 15 by omega) (way := way) (wds := wds) (tb := optT r0) (c6 := c6) (c7 := c7) (c8 := c8) (c9 := c9) (c10 := c10) (c11 := c11) (c12 := c12) (c13 := c13) (c14 := c14)
        exact ⟨t, _, S', (if_no t0).trans ((if_no ((tw 1).trans (by rw [c1]))).trans ((if_yes ((tw 2).trans (by rw [c2]))).trans e)), ⟨_, _, _, _, _, _, _, _, _, _, rfl⟩, h1, h2, h3, h4⟩
      | false =>
        cases c3 : way == 3 with
        | true =>
          obtain ⟨t, o6, o10, o11, o12, S', e, h1, h2, h3, h4⟩ := tb_A3 h (show many ≤ 15 by omega) (way := way) (wds := wds) (tb := optT r0) (c6 := c6) (c7 := c7) (c8 := c8) (c9 := c9) (c10 := c10) (c11 := c11) (c12 := c12) (c13 := c13) (c14 := c14)
          exact ⟨t, _, S', (if_no t0).trans ((if_no ((tw 1).trans (by rw [c1]))).trans ((if_no ((tw 2).trans (by rw [c2]))).trans ((if_yes ((tw 3).trans (by rw [c3]))).trans e))), ⟨_, _, _, _, _, _, _, _, _, _, rfl⟩, h1, h2, h3, h4⟩
        | false =>
          cases r0 with
          | none => simp at c0
          | some t =>
            obtain ⟨h1, h2⟩ := hr t rfl
            exact ⟨t, ⟨rT l many way ((rows many).map tI) wds (tI t) c6 c7 c8 c9 c10 c11 c12 c13 c14, S, []⟩, S, (if_no t0).trans ((if_no ((tw 1).trans (by rw [c1]))).trans ((if_no ((tw 2).trans (by rw [c2]))).trans ((if_no ((tw 3).trans (by rw [c3]; rfl))).trans q_nil))), ⟨_, _, _, _, _, _, _, _, _, _, rfl⟩, h1, h2, h, .refl S l d⟩
theorem tb_turn (h : Mill S l d) (h0 : 1 ≤ many) (hm : many ≤ 9) {t : List Int} (hl : t.length = 2 ^ many) (hb : Bits t) {rws : List PyData} : ∃ (t' : List Int) (st : Stt) (S' : List Cell), (sIf (tst (eqR false (rU (fz (cal 2 F__law_take (aCons (nm 0) (aCons (kst (.int 3)) (aNil)))))) (rU (kst (.int 0))))) (seq (sSet 13 (cal 2 F__law_take (aCons (nm 0) (aCons (fz (b1 kLen (rN 5))) (aNil))))) (sSet 5 (cal 3 F__law_with (aCons (nm 5) (aCons (nm 13) (aCons (bin iSub (kst (.int 1)) (idx (rN 5) (nm 13))) (aNil))))))) (sNil)) ⟨rT l many way rws wds (tI t) c6 c7 c8 c9 c10 c11 c12 c13 c14, S, []⟩ = some (.nx, st) ∧ WT l many rws wds (tI t') S' st ∧ t'.length = 2 ^ many ∧ Bits t' ∧ Mill S' l d ∧ Same S S' l d := by
  have len : t.length ≤ 512 := by rw [hl]; exact two_pow_le hm
  have pos : 2 ≤ t.length := by rw [hl]; exact two_pow_le h0
  obtain ⟨r, S1, e1, ⟨q0, q1⟩, M1, sm1⟩ := law_take h (many := 3) (by decide) (by decide)
  cases c0 : r == 0 with
  | false =>
    refine ⟨t, ⟨rT l many way rws wds (tI t) c6 c7 c8 c9 c10 c11 c12 c13 c14, S1, []⟩, S1, ?_, ⟨_, _, _, _, _, _, _, _, _, _, rfl⟩, hl, hb, M1, sm1⟩
    simp [e1, c0]
  | true =>
    obtain ⟨p, S2, e2, ⟨p0, p1⟩, M2, sm2⟩ := law_take M1 (many := (t.length : Int)) (by omega) (by omega)
    obtain ⟨n, rfl⟩ := Int.eq_ofNat_of_zero_le p0
    have hn : n < t.length := by omega
    have ei := atI_map (row := t) (p := (n : Int)) (by omega) (by omega)
    simp only [Int.toNat_natCast] at ei
    have ew := law_with (ds := t.map .int) (p := n) (x := .int (1 - t[n])) (by simpa using hn) (by rw [List.length_map]; omega) S2
    refine ⟨t.set n (1 - t[n]), ⟨rT l many way rws wds (tI (t.set n (1 - t[n]))) c6 c7 c8 c9 c10 c11 c12 (slU (.int n)) c14, S2, []⟩, S2, ?_, ⟨_, _, _, _, _, _, _, _, _, _, rfl⟩, by rw [List.length_set]; exact hl, ?_, M2, sm1.trans sm2⟩
    · simp [e1, c0, e2, ei, ew, tI]
    · intro x hx
      rcases List.mem_or_eq_of_mem_set hx with hx | hx
      · exact hb x hx
      · have := hb t[n] (List.getElem_mem hn)
        omega
theorem tb_last (h : Mill S l d) (h0 : 1 ≤ many) (hm : many ≤ 9) {t : List Int} (hl : t.length = 2 ^ many) (hb : Bits t) {rws : List PyData} : ∃ (t' : List Int) (S' : List Cell), (∃ r' : List (Option O), (sRet (ifO (tst (eqR false (rU (fz (cal 2 F__law_take (aCons (nm 0) (aCons (kst (.int 5)) (aNil)))))) (rU (kst (.int 0))))) (b1 kTuple (rU (fz (lc (vals (nm 5)) (onV (gN 14)) (yes) (bin iSub (kst (.int 1)) (nm 14)) [14])))) (own 5))) ⟨rT l many way rws wds (tI t) c6 c7 c8 c9 c10 c11 c12 c13 c14, S, []⟩ = some (.rt (.u (.v (tI t'))), ⟨r', S', []⟩)) ∧ t'.length = 2 ^ many ∧ Bits t' ∧ Mill S' l d ∧ Same S S' l d := by
  have len : t.length ≤ 512 := by rw [hl]; exact two_pow_le hm
  obtain ⟨r, S1, e1, ⟨q0, q1⟩, M1, sm1⟩ := law_take h (many := 5) (by decide) (by decide)
  cases c0 : r == 0 with
  | false =>
    refine ⟨t, S1, ?_, hl, hb, M1, sm1⟩
    simp [e1, c0]
  | true =>
    have e3 := lcV1 (i := 14) (e := bin iSub (kst (.int 1)) (nm 14)) (S := S1) (h := []) (st := ⟨rT l many way rws wds (tI t) c6 c7 c8 c9 c10 c11 c12 c13 c14, S1, []⟩) (f := vals (nm 5)) (r0 := rT l many way rws wds (tI t) c6 c7 c8 c9 c10 c11 c12 c13 c14) PyData.int (fun b => .int (1 - b)) t (by simp [Function.comp_def]) (by simp) (fun x hx h => by simp) (by omega)
    refine ⟨t.map fun b => 1 - b, S1, ?_, by rw [List.length_map]; exact hl, ?_, M1, sm1⟩
    · generalize (lc (vals (nm 5)) (onV (gN 14)) (yes) (bin iSub (kst (.int 1)) (nm 14)) [14]) = kx at e3 ⊢
      simp [e1, c0, e3, kTuple, tI, Function.comp_def]
    · intro x hx
      obtain ⟨y, hy, rfl⟩ := List.mem_map.mp hx
      have := hb y hy
      omega
def wordsL : List PyData := [.str "all", .str "any", .str "first", .str "halves", .str "most", .str "odd", .str "pick", .str "rise"]
theorem word_is {x : PyData} (h : x ∈ wordsL) : ∃ w : Str, x = .str w ∧ PyData.strOk w = true := by
  simp only [wordsL, List.mem_cons, List.not_mem_nil, or_false] at h
  rcases h with rfl | rfl | rfl | rfl | rfl | rfl | rfl | rfl <;> exact ⟨_, rfl, strOk_of _⟩
theorem law_table (h : Mill S l d) (h0 : 1 ≤ many) (hm : many ≤ 9) : ∃ (t : List Int) (S' : List Cell), F__law_table [.ref l, .v (.int many)] S = some (.u (.v (tI t)), S') ∧ t.length = 2 ^ many ∧ Bits t ∧ Mill S' l d ∧ Same S S' l d := by
  obtain ⟨way, S1, e1, ⟨q0, q1⟩, M1, sm1⟩ := law_take h (many := 7) (by decide) (by decide)
  obtain ⟨x, S2, hx, e2, M2, sm2⟩ := law_one M1 (ds := wordsL) (fun z => nomatch z) (by decide)
  obtain ⟨w, rfl, hw⟩ := word_is hx
  obtain ⟨r0, e3, hr⟩ := law_known hw h0 (show many ≤ 15 by omega) S2
  obtain ⟨t1, st1, S3, e4, ⟨way2, c6, c7, c8, c9, c10, c11, c12, c13, c14, rfl⟩, l1, b1, M3, sm3⟩ := tb_ways M2 h0 hm hr (way := way) (wds := wordsL) (c6 := none) (c7 := none) (c8 := none) (c9 := none) (c10 := none) (c11 := none) (c12 := none) (c13 := none) (c14 := none)
  obtain ⟨t2, st2, S4, e5, ⟨way3, c6, c7, c8, c9, c10, c11, c12, c13, c14, rfl⟩, l2, b2, M4, sm4⟩ := tb_turn M3 h0 hm l1 b1 (way := way2) (wds := wordsL) (c6 := c6) (c7 := c7) (c8 := c8) (c9 := c9) (c10 := c10) (c11 := c11) (c12 := c12) (c13 := c13) (c14 := c14) (rws := (rows many).map tI)
  obtain ⟨t3, S5, ⟨r', e6⟩, l3, b3, M5, sm5⟩ := tb_last M4 h0 hm l2 b2 (way := way3) (wds := wordsL) (c6 := c6) (c7 := c7) (c8 := c8) (c9 := c9) (c10 := c10) (c11 := c11) (c12 := c12) (c13 := c13) (c14 := c14) (rws := (rows many).map tI)
  refine ⟨t3, S5, run_ret [some (.u (.ref l)), slU (.int many), none, none, none, none, none, none, none, none, none, none, none, none, none] rfl ⟨r', [], ?_⟩, l3, b3, M5, (((sm1.trans sm2).trans sm3).trans sm4).trans sm5⟩
  have er := law_rows (show many ≤ 19 by omega) S1
  have s1 : (sAsg (tupF (aCons (fz (cal 2 F__law_take (aCons (nm 0) (aCons (kst (.int 7)) (aNil))))) (aCons (fz (cal 1 F__law_rows (aCons (nm 1) (aNil)))) (aNil)))) (gT 2 (gCo (gN 2) (gCo (gN 3) (gNo))))) ⟨[some (.u (.ref l)), slU (.int many), none, none, none, none, none, none, none, none, none, none, none, none, none], S, []⟩ = some (.nx, ⟨[some (.u (.ref l)), slU (.int many), slU (.int way), slU (.list ((rows many).map tI)), none, none, none, none, none, none, none, none, none, none, none], S1, []⟩) := by
    simp [e1, er, lineOk_of (show 2 ≤ 16777216 by omega)]
  have s2 : (sSet 4 (lstF (aCons (kst (.str "all")) (aCons (kst (.str "any")) (aCons (kst (.str "first")) (aCons (kst (.str "halves")) (aCons (kst (.str "most")) (aCons (kst (.str "odd")) (aCons (kst (.str "pick")) (aCons (kst (.str "rise")) (aNil))))))))))) ⟨[some (.u (.ref l)), slU (.int many), slU (.int way), slU (.list ((rows many).map tI)), none, none, none, none, none, none, none, none, none, none, none], S1, []⟩ = some (.nx, ⟨[some (.u (.ref l)), slU (.int many), slU (.int way), slU (.list ((rows many).map tI)), some (.ol wordsL), none, none, none, none, none, none, none, none, none, none], S1, []⟩) := by
    simp [lineOk_of (show 8 ≤ 16777216 by omega), wordsL]
  have s3 : (sSet 5 (cal 2 F__law_known (aCons (fz (cal 2 F__law_one (aCons (nm 0) (aCons (nm 4) (aNil))))) (aCons (nm 1) (aNil))))) ⟨[some (.u (.ref l)), slU (.int many), slU (.int way), slU (.list ((rows many).map tI)), some (.ol wordsL), none, none, none, none, none, none, none, none, none, none], S1, []⟩ = some (.nx, ⟨rT l many way ((rows many).map tI) wordsL (optT r0) none none none none none none none none none, S2, []⟩) := by
    simp [e2, e3]
  unfold B__law_table
  rw [seq_nx s1, seq_nx s2, seq_nx s3, seq_nx e4, seq_nx e5]
  exact e6
end
end Sp

namespace Sp
open PySem L2 MP Sh

/-! ## numbers of rows -/
theorem num_app (r : List Int) (b : Int) : num (r ++ [b]) = 2 * num r + b := by
  simp [num]
theorem num_lt : ∀ (n : Nat) (r : List Int), r.length = n → Bits r → 0 ≤ num r ∧ num r < ((2 ^ n : Nat) : Int)
  | 0, r, h, _ => by
    rw [List.length_eq_zero_iff.mp h]
    decide
  | n + 1, r, h, hb => by
    have hn : r ≠ [] := fun z => by rw [z] at h; cases h
    have e := List.dropLast_concat_getLast hn
    have ih := num_lt n r.dropLast (by simp [h]) fun x hx => hb x ((List.dropLast_sublist r).subset hx)
    have hl := hb _ (List.getLast_mem hn)
    rw [← e, num_app, Nat.pow_succ]
    omega
theorem atI_getD {t : List Int} {i : Int} (h0 : 0 ≤ i) (h : i.toNat < t.length) : atI (t.map PyData.int) i = some (.int (t.getD i.toNat 0)) := by
  rw [atI_map h0 h, List.getD_eq_getElem?_getD, List.getElem?_eq_getElem h]
  rfl
theorem perm_back {α : Type} {f : α → PyData} {g : PyData → α} (h : ∀ a, g (f a) = a) {xs : List PyData} {ys : List α} (p : xs.Perm (ys.map f)) : ∃ zs : List α, xs = zs.map f ∧ zs.Perm ys := by
  refine ⟨xs.map g, ?_, ?_⟩
  · rw [List.map_map]
    refine ((List.map_congr_left fun x hx => ?_).trans (List.map_id _)).symm
    obtain ⟨a, ha, rfl⟩ := List.mem_map.mp (p.mem_iff.mp hx)
    simp [h]
  · have := p.map g
    rw [List.map_map] at this
    have e : ys.map (g ∘ f) = ys := (List.map_congr_left fun a _ => h a).trans (List.map_id _)
    rwa [e] at this
theorem flat_le {α β : Type} (f : α → List β) (c : Nat) : ∀ l : List α, (∀ a ∈ l, (f a).length ≤ c) → (l.flatMap f).length ≤ c * l.length
  | [], _ => Nat.zero_le _
  | a :: l, h => by
    have h1 := h a List.mem_cons_self
    have h2 := flat_le f c l fun b hb => h b (List.mem_cons_of_mem _ hb)
    rw [List.flatMap_cons, List.length_append, List.length_cons, Nat.mul_succ]
    omega
theorem sret_ex {f : EvO} {st : Stt} {o : O} {S : List Cell} (e : ∃ r h, f st = some (o, ⟨r, S, h⟩)) : ∃ r' h', sRet f st = some (.rt o, ⟨r', S, h'⟩) := by
  obtain ⟨r, h, e⟩ := e
  rw [q_ret, e]
  exact ⟨_, _, rfl⟩
end Sp

namespace Sp
open PySem L2 MP Sh

/-! ## half rows and what is sure -/
/-- a row fills a half row -/
def Fills (r : List Int) (h : List (Option Int)) : Prop := r.length = h.length ∧ Bits r ∧ ∀ (i : Nat) (b : Int), h[i]? = some (some b) → r[i]? = some b
def SureV (t : List Int) (h : List (Option Int)) (v : Int) : Prop := ∀ r, Fills r h → t.getD (num r).toNat 0 = v
open Classical in
noncomputable def sureO (t : List Int) (h : List (Option Int)) : Option Int := if hh : ∃ v, SureV t h v then some hh.choose else none
def Half (h : List (Option Int)) : Prop := ∀ x ∈ h, x = none ∨ x = some 0 ∨ x = some 1
def fill0 (h : List (Option Int)) : List Int := h.map fun x => x.getD 0
theorem fill0_fills {h : List (Option Int)} (hh : Half h) : Fills (fill0 h) h := by
  refine ⟨by simp [fill0], fun x hx => ?_, fun i b e => ?_⟩
  · obtain ⟨y, hy, rfl⟩ := List.mem_map.mp hx
    rcases hh y hy with rfl | rfl | rfl <;> simp
  · unfold fill0
    rw [List.getElem?_map, e]
    rfl
theorem sure_iff {t : List Int} {h : List (Option Int)} (hh : Half h) (v : Int) : sureO t h = some v ↔ SureV t h v := by
  unfold sureO
  constructor
  · intro e
    split at e
    · next q =>
      injection e with e
      rw [← e]
      exact q.choose_spec
    · cases e
  · intro q
    have ex : ∃ v, SureV t h v := ⟨v, q⟩
    rw [dif_pos ex]
    have a := ex.choose_spec _ (fill0_fills hh)
    have b := q _ (fill0_fills hh)
    rw [← a, b]
theorem sure_none {t : List Int} {h : List (Option Int)} (hh : Half h) : sureO t h = none ↔ ∀ v, ¬ SureV t h v := by
  constructor
  · intro e v q
    rw [(sure_iff hh v).mpr q] at e
    cases e
  · intro q
    cases e : sureO t h with
    | none => rfl
    | some v => exact absurd ((sure_iff hh v).mp e) (q v)
theorem half_set {h : List (Option Int)} (hh : Half h) {b : Int} (hb : b = 0 ∨ b = 1) (i : Nat) : Half (h.set i (some b)) := fun x hx => by
  rcases List.mem_or_eq_of_mem_set hx with q | q
  · exact hh x q
  · subst q
    rcases hb with rfl | rfl <;> simp
theorem fills_set {r : List Int} {h : List (Option Int)} {i : Nat} (hi : i < h.length) (hn : h[i]? = some none) (b : Int) : Fills r (h.set i (some b)) ↔ Fills r h ∧ r[i]? = some b := by
  constructor
  · rintro ⟨h1, h2, h3⟩
    rw [List.length_set] at h1
    refine ⟨⟨h1, h2, fun j c e => h3 j c ?_⟩, h3 i b ?_⟩
    · rw [List.getElem?_set]
      by_cases q : i = j
      · subst q
        rw [hn] at e
        cases e
      · rw [if_neg q]
        exact e
    · rw [List.getElem?_set, if_pos rfl, if_pos hi]
  · rintro ⟨⟨h1, h2, h3⟩, h4⟩
    refine ⟨by rw [List.length_set]; exact h1, h2, fun j c e => ?_⟩
    rw [List.getElem?_set] at e
    by_cases q : i = j
    · subst q
      rw [if_pos rfl, if_pos hi] at e
      injection e with e
      injection e with e
      rw [← e]
      exact h4
    · rw [if_neg q] at e
      exact h3 j c e
theorem sure_step {t : List Int} {h : List (Option Int)} (hh : Half h) {i : Nat} (hi : i < h.length) (hn : h[i]? = some none) :
    sureO t h = if sureO t (h.set i (some 0)) = sureO t (h.set i (some 1)) then sureO t (h.set i (some 0)) else none := by
  have k0 := half_set hh (b := 0) (.inl rfl) i
  have k1 := half_set hh (b := 1) (.inr rfl) i
  have down : ∀ v b, SureV t h v → SureV t (h.set i (some b)) v := fun v b q r f => q r ((fills_set hi hn b).mp f).1
  split
  · next e =>
    cases e0 : sureO t (h.set i (some 0)) with
    | none => exact (sure_none hh).mpr fun v q => (sure_none k0).mp e0 v (down v 0 q)
    | some v =>
      rw [e0] at e
      refine (sure_iff hh v).mpr fun r f => ?_
      have f1 : i < r.length := by rw [f.1]; exact hi
      have := f.2.1 r[i] (List.getElem_mem f1)
      rcases this with q | q
      · exact (sure_iff k0 v).mp e0 r ((fills_set hi hn 0).mpr ⟨f, by rw [List.getElem?_eq_getElem f1, q]⟩)
      · exact (sure_iff k1 v).mp e.symm r ((fills_set hi hn 1).mpr ⟨f, by rw [List.getElem?_eq_getElem f1, q]⟩)
  · next e =>
    refine (sure_none hh).mpr fun v q => e ?_
    rw [(sure_iff k0 v).mpr (down v 0 q), (sure_iff k1 v).mpr (down v 1 q)]
theorem sure_full {t r : List Int} (hb : Bits r) : sureO t (r.map some) = some (t.getD (num r).toNat 0) := by
  have hh : Half (r.map some) := fun x hx => by
    obtain ⟨y, hy, rfl⟩ := List.mem_map.mp hx
    rcases hb y hy with rfl | rfl <;> simp
  refine (sure_iff hh _).mpr fun q f => ?_
  have : q = r := by
    apply List.ext_getElem
    · simpa using f.1
    · intro i h1 h2
      have := f.2.2 i r[i] (by rw [List.getElem?_map, List.getElem?_eq_getElem h2]; rfl)
      rw [List.getElem?_eq_getElem h1] at this
      injection this
  rw [this]
/-! the order of the half rows -/
def codeO : Option Int → Nat
  | none => 0
  | some b => b.toNat + 1
def code (h : List (Option Int)) : Nat := h.foldl (fun n x => 3 * n + codeO x) 0
theorem code_app (h : List (Option Int)) (x : Option Int) : code (h ++ [x]) = 3 * code h + codeO x := by simp [code]
theorem range_three : ∀ n : Nat, (List.range n).flatMap (fun k => [3 * k, 3 * k + 1, 3 * k + 2]) = List.range (3 * n)
  | 0 => rfl
  | n + 1 => by
    rw [List.range_succ, List.flatMap_append, range_three n, show 3 * (n + 1) = 3 * n + 1 + 1 + 1 by omega, List.range_succ, List.range_succ, List.range_succ]
    simp
theorem halves_code : ∀ n, (halvesL n).map code = List.range (3 ^ n)
  | 0 => rfl
  | n + 1 => by
    have ih := halves_code n
    show ((halvesL n).flatMap split3).map code = _
    rw [Nat.pow_succ, Nat.mul_comm, ← range_three, ← ih, List.map_flatMap, List.flatMap_map]
    congr 1
    funext h
    simp [split3, code_app, codeO]
theorem code_set : ∀ {h : List (Option Int)} {i : Nat} (b : Int), h[i]? = some none → code h < code (h.set i (some b)) := by
  have go : ∀ (h : List (Option Int)) (i : Nat) (b : Int) (x y : Nat), h[i]? = some none → x ≤ y → h.foldl (fun n x => 3 * n + codeO x) x < (h.set i (some b)).foldl (fun n x => 3 * n + codeO x) y := by
    intro h
    have mono : ∀ (h : List (Option Int)) (x y : Nat), x < y → h.foldl (fun n x => 3 * n + codeO x) x < h.foldl (fun n x => 3 * n + codeO x) y := by
      intro h
      induction h with
      | nil => exact fun x y q => q
      | cons z h ih => exact fun x y q => ih _ _ (show 3 * x + codeO z < 3 * y + codeO z by omega)
    induction h with
    | nil => intro i b x y e; simp at e
    | cons z h ih =>
      intro i b x y e q
      cases i with
      | zero =>
        simp at e
        subst e
        rw [List.set_cons_zero, List.foldl_cons, List.foldl_cons]
        refine mono _ _ _ ?_
        show 3 * x + 0 < 3 * y + (b.toNat + 1)
        omega
      | succ i =>
        rw [List.set_cons_succ, List.foldl_cons, List.foldl_cons]
        exact ih i b _ _ (by simpa using e) (show 3 * x + codeO z ≤ 3 * y + codeO z by omega)
  exact fun {h} {i} b e => go h i b 0 0 e (Nat.le_refl _)
/-- what is behind a half row among all -/
theorem halves_behind {n : Nat} {pre post : List (List (Option Int))} {h : List (Option Int)} (e : halvesL n = pre ++ h :: post) {i : Nat} (hn : h[i]? = some none) {b : Int} (hb : b = 0 ∨ b = 1) : h.set i (some b) ∈ post := by
  have hm : h ∈ halvesL n := by rw [e]; simp
  obtain ⟨hl, hh⟩ := halves_mem n h hm
  have m2 : h.set i (some b) ∈ halvesL n := halves_all n _ (by rw [List.length_set, hl]) (half_set hh hb i)
  have c := halves_code n
  have lt := code_set b hn
  rw [e, List.map_append, List.map_cons] at c
  have cp : ∀ k, (hk : k < (pre.map code ++ code h :: post.map code).length) → (pre.map code ++ code h :: post.map code)[k] = k := by
    rw [c]
    intro k hk
    simp
  have ch : code h = pre.length := by
    have := cp pre.length (by simp)
    rw [List.getElem_append_right (by simp)] at this
    simpa using this
  rw [e] at m2
  rcases List.mem_append.mp m2 with q | q
  · obtain ⟨k, hk, ek⟩ := List.getElem_of_mem q
    have := cp k (by simp; omega)
    rw [List.getElem_append_left (by simpa using hk), List.getElem_map, ek] at this
    omega
  · rcases List.mem_cons.mp q with q | q
    · rw [q] at lt
      omega
    · exact q
/-! ## the fewest places that make sure -/
def ones (s : List Int) : Nat := s.countP (· == 1)
def Sure (t row s : List Int) : Prop := ∀ r : List Int, r.length = row.length → Bits r → (∀ i : Nat, s[i]? = some 1 → r[i]? = row[i]?) → t.getD (num r).toNat 0 = t.getD (num row).toNat 0
def LeastSure (t row : List Int) (v : Nat) : Prop := (∃ s, s.length = row.length ∧ Bits s ∧ Sure t row s ∧ ones s = v) ∧ ∀ s, s.length = row.length → Bits s → Sure t row s → v ≤ ones s
theorem least_one {t row : List Int} {v w : Nat} (h1 : LeastSure t row v) (h2 : LeastSure t row w) : v = w := by
  obtain ⟨⟨s, a1, a2, a3, a4⟩, a5⟩ := h1
  obtain ⟨⟨u, b1, b2, b3, b4⟩, b5⟩ := h2
  have := a5 u b1 b2 b3
  have := b5 s a1 a2 a3
  omega
/-- the half row of a row at the places of a lot -/
def halfOf (row s : List Int) : List (Option Int) := List.zipWith (fun b c => if c = 1 then some b else none) row s
theorem half_len {row s : List Int} (h : s.length = row.length) : (halfOf row s).length = row.length := by simp [halfOf, h]
theorem half_bits {row : List Int} (hb : Bits row) (s : List Int) : Half (halfOf row s) := fun x hx => by
  obtain ⟨i, hi, e⟩ := List.getElem_of_mem hx
  simp only [halfOf, List.getElem_zipWith] at e
  subst e
  have := hb _ (List.getElem_mem (l := row) (n := i) (by simp [halfOf] at hi; omega))
  split
  · rcases this with q | q <;> simp [q]
  · simp
theorem fills_half {row s r : List Int} (hs : s.length = row.length) : Fills r (halfOf row s) ↔ r.length = row.length ∧ Bits r ∧ ∀ i : Nat, s[i]? = some 1 → r[i]? = row[i]? := by
  unfold Fills
  rw [half_len hs]
  refine and_congr_right fun hl => and_congr_right fun hb => ?_
  constructor
  · intro h i e
    have hi : i < s.length := by
      rcases Nat.lt_or_ge i s.length with q | q
      · exact q
      · rw [List.getElem?_eq_none q] at e; cases e
    have hi' : i < row.length := by omega
    rw [h i row[i] (by
      have hz : i < (halfOf row s).length := by rw [half_len hs]; exact hi'
      rw [List.getElem?_eq_getElem hz]
      simp only [halfOf, List.getElem_zipWith]
      rw [List.getElem?_eq_getElem hi] at e
      injection e with e
      rw [if_pos e]), List.getElem?_eq_getElem hi']
  · intro h i b e
    have hz : i < (halfOf row s).length := by
      rcases Nat.lt_or_ge i (halfOf row s).length with q | q
      · exact q
      · rw [List.getElem?_eq_none q] at e; cases e
    rw [List.getElem?_eq_getElem hz] at e
    have hi' : i < row.length := by rw [half_len hs] at hz; exact hz
    have hi : i < s.length := by omega
    simp only [halfOf, List.getElem_zipWith] at e
    injection e with e
    by_cases c : s[i] = 1
    · rw [if_pos c] at e
      injection e with e
      rw [h i (by rw [List.getElem?_eq_getElem hi, c]), List.getElem?_eq_getElem hi', e]
    · rw [if_neg c] at e
      cases e
theorem sure_half {t row s : List Int} (hb : Bits row) (hs : s.length = row.length) : (sureO t (halfOf row s)).isSome = true ↔ Sure t row s := by
  have hh := half_bits hb s
  constructor
  · intro q
    obtain ⟨v, e⟩ := Option.isSome_iff_exists.mp q
    have q := (sure_iff hh v).mp e
    intro r h1 h2 h3
    rw [q r ((fills_half hs).mpr ⟨h1, h2, h3⟩), q row ((fills_half hs).mpr ⟨rfl, hb, fun _ _ => rfl⟩)]
  · intro q
    have : SureV t (halfOf row s) (t.getD (num row).toNat 0) := fun r f => by
      obtain ⟨h1, h2, h3⟩ := (fills_half hs).mp f
      exact q r h1 h2 h3
    rw [(sure_iff hh _).mpr this]
    rfl
theorem count_half : ∀ {row s : List Int}, s.length = row.length → (halfOf row s).countP (·.isSome) = ones s
  | [], [], _ => rfl
  | [], _ :: _, h => nomatch h
  | _ :: _, [], h => nomatch h
  | b :: row, c :: s, h => by
    have ih := count_half (row := row) (s := s) (by simpa using h)
    have e : halfOf (b :: row) (c :: s) = (if c = 1 then some b else none) :: halfOf row s := rfl
    rw [e, List.countP_cons, ih]
    unfold ones
    rw [List.countP_cons]
    by_cases q : c = 1 <;> simp [q]
end Sp

namespace Sp
open PySem L2 MP Sh

/-! ## what is sure, walked -/
theorem nk_eO : ∀ a : Option Int, ∃ k, nk (eO a) = some k ∧ k.depth = 0
  | none => ⟨.none, rfl, rfl⟩
  | some i => ⟨.num i, rfl, rfl⟩
theorem nk_eO_inj : ∀ a b : Option Int, nk (eO a) = nk (eO b) → a = b
  | none, none, _ => rfl
  | none, some _, h => by cases h
  | some _, none, h => by cases h
  | some a, some b, h => by
    have h : some (NestedKey.num a) = some (NestedKey.num b) := h
    injection h with h
    injection h with h
    rw [h]
theorem kf_tO (h : List (Option Int)) : (kf (tO h)).isSome = true := kf_tup eO nk_eO nk_eO_inj h
theorem kf_tO_inj {h h' : List (Option Int)} (e : kf (tO h) = kf (tO h')) : h = h' := kf_inj eO nk_eO nk_eO_inj e
theorem eqv_eO : ∀ a b : Option Int, PyData.eqv (eO a) (eO b) = (a == b)
  | none, none => rfl
  | none, some _ => rfl
  | some _, none => rfl
  | some a, some b => by
    show (a == b) = (some a == some b)
    rfl
theorem flat_eO (h : List (Option Int)) : (h.map eO).all flatD = true := by
  rw [List.all_map]
  exact List.all_eq_true.mpr fun x _ => by cases x <;> rfl
theorem shaped_eO (x : Option Int) : SeqAt.shaped (eO x) = true := by cases x <;> rfl
theorem any_none (h : List (Option Int)) : ((h.map eO).any fun z => PyData.eqv z .none) = h.contains none := by
  rw [List.any_map, List.contains_eq_any_beq]
  congr 1
  funext x
  cases x <;> rfl
theorem find_none (h : List (Option Int)) : ((h.map eO).findIdx fun z => PyData.eqv z .none) = h.findIdx (· == none) := by
  rw [List.findIdx_map]
  congr 1
  funext x
  cases x <;> rfl
theorem tupO_ok {kvs : List (PyData × U)} (h : tupKeys kvs = true) (k : List (Option Int)) : kOk kvs (tO k) = true := by
  unfold kOk
  rw [h, kf_tO]
  rfl
theorem dget_out {kvs : List (PyData × U)} {k : PyData} (h : ∀ p ∈ kvs, kf p.1 ≠ kf k) : dget kvs k = none := by
  induction kvs with
  | nil => rfl
  | cons p kvs ih =>
    rw [dget_cons, if_neg (h p List.mem_cons_self)]
    exact ih fun q hq => h q (List.mem_cons_of_mem _ hq)
theorem dput_new {kvs : List (PyData × U)} {k : PyData} {v : U} (h : dget kvs k = none) : dput kvs k v = kvs ++ [(k, v)] := by
  unfold dput
  rw [h]
  rfl
section
variable {t : List Int} {S : List Cell} {kvs : List (PyData × U)} {h : List (Option Int)} {o2 o3 o4 o5 : Option O}
abbrev stU (t : List Int) (kvs : List (PyData × U)) (o2 o3 o4 o5 : Option O) (S : List Cell) : Stt := ⟨[slU (tI t), some (.od kvs), o2, o3, o4, o5], S, []⟩
theorem sr_none (hm : none ∈ h) (hl : h.length ≤ 1000) (tk : tupKeys kvs = true) (hk : kvs.length < 16777216) {x0 x1 : Option Int}
    (g0 : dget kvs (tO (h.set (h.findIdx (· == none)) (some 0))) = some (.v (eO x0))) (g1 : dget kvs (tO (h.set (h.findIdx (· == none)) (some 1))) = some (.v (eO x1))) :
    ∃ a b c, (seq (sSet 3 (up (mth kIndex (rN 2) (aCons (kst .none) (aNil))))) (seq (sPar 4 5 (hCons (up (idx (rN 1) (fz (cal 3 F__law_with (aCons (nm 2) (aCons (nm 3) (aCons (kst (.int 0)) (aNil)))))))) (hCons (up (idx (rN 1) (fz (cal 3 F__law_with (aCons (nm 2) (aCons (nm 3) (aCons (kst (.int 1)) (aNil)))))))) (hNil)))) (sAsg (ifU (tst (eqR false (rN 4) (rN 5))) (nm 4) (kst .none)) (gS (rN 1) (nm 2))))) (stU t kvs (slU (tO h)) o3 o4 o5 S) = some (.nx, stU t (dput kvs (tO h) (.v (eO (if x0 = x1 then x0 else none)))) (slU (tO h)) a b c S) := by
  have hi : h.findIdx (· == none) < h.length := List.findIdx_lt_length_of_exists ⟨none, hm, rfl⟩
  have fi := find_none h
  have an := any_none h
  have st := shaped_tup (flat_eO h)
  have cn : h.contains none = true := by simp [hm]
  have w0 := law_with (ds := h.map eO) (p := h.findIdx (· == none)) (x := .int 0) (by rw [List.length_map]; exact hi) (by rw [List.length_map]; omega) S
  have w1 := law_with (ds := h.map eO) (p := h.findIdx (· == none)) (x := .int 1) (by rw [List.length_map]; exact hi) (by rw [List.length_map]; omega) S
  rw [show (h.map eO).set (h.findIdx (· == none)) (.int 0) = (h.set (h.findIdx (· == none)) (some 0)).map eO by rw [List.map_set]; rfl] at w0
  rw [show (h.map eO).set (h.findIdx (· == none)) (.int 1) = (h.set (h.findIdx (· == none)) (some 1)).map eO by rw [List.map_set]; rfl] at w1
  have k0 := tupO_ok tk (h.set (h.findIdx (· == none)) (some 0))
  have k1 := tupO_ok tk (h.set (h.findIdx (· == none)) (some 1))
  have k2 := tupO_ok tk h
  change F__law_with _ _ = some (.u (.v (tO _)), S) at w0
  change F__law_with _ _ = some (.u (.v (tO _)), S) at w1
  generalize tO (h.set (h.findIdx (· == none)) (some 0)) = d0 at *
  generalize tO (h.set (h.findIdx (· == none)) (some 1)) = d1 at *
  generalize h.findIdx (· == none) = p at *
  rw [cn] at an
  have ev := eqv_eO x0 x1
  have s0 := shaped_eO x0
  have s1 := shaped_eO x1
  have dec : (if x0 = x1 then eO x0 else PyData.none) = eO (if x0 = x1 then x0 else none) := by split <;> rfl
  rw [← dec]
  change F__law_with [.v (tO h), _, _] _ = _ at w0
  change F__law_with [.v (tO h), _, _] _ = _ at w1
  have ki : kIndex (.t (h.map eO)) [.v .none] = some (.v (.int (p : Nat))) := by
    show (if (SeqAt.shaped (.tuple (h.map eO)) && SeqAt.shaped PyData.none && (h.map eO).any fun z => PyData.eqv z .none) = true then some (U.v (.int (((h.map eO).findIdx fun z => PyData.eqv z .none : Nat) : Int))) else none) = _
    rw [st, an, fi]
    rfl
  refine ⟨slU (.int (p : Nat)), slU (eO x0), slU (eO x1), ?_⟩
  have lk : ∀ r : List (Option O), look ⟨r, S, []⟩ (.u (.v (tO h))) = some (.t (h.map eO)) := fun r => rfl
  rw [seq_nx (st1 := stU t kvs (slU (tO h)) (slU (.int (p : Nat))) o4 o5 S) (by simp [ki])]
  generalize tO h = dh at *
  rw [seq_nx (st1 := stU t kvs (slU dh) (slU (.int (p : Nat))) (slU (eO x0)) (slU (eO x1)) S) (by simp [w0, w1, k0, k1, g0, g1])]
  by_cases hx : x0 = x1
  · subst hx
    have ev' : PyData.eqv (eO x0) (eO x0) = true := by rw [ev]; simp
    simp [s0, ev', k2, hk]
  · have ev' : PyData.eqv (eO x0) (eO x1) = false := by rw [ev]; simp [hx]
    simp [s0, s1, ev', k2, hk, hx]
theorem sr_full {r : List Int} {n : Nat} (ht : t.length = 2 ^ n) (hr : r.length = n) (hb : Bits r) (tk : tupKeys kvs = true) (hk : kvs.length < 16777216) : (sAsg (idx (rN 0) (fz (cal 1 F__law_number (aCons (nm 2) (aNil))))) (gS (rN 1) (nm 2))) (stU t kvs (slU (tO (r.map some))) o3 o4 o5 S) = some (.nx, stU t (dput kvs (tO (r.map some)) (.v (eO (some (t.getD (num r).toNat 0))))) (slU (tO (r.map some))) o3 o4 o5 S) := by
  have lt := num_lt n r hr hb
  have a1 := atI_getD (t := t) lt.1 (by rw [ht]; omega)
  have e : tO (r.map some) = tI r := by
    unfold tO tI
    rw [List.map_map]
    rfl
  have k2 := tupO_ok tk (r.map some)
  have en := law_number r S
  rw [e] at k2 ⊢
  generalize tI r = dr at *
  simp [en, a1, k2, hk, eO]
theorem full_map {h : List (Option Int)} (hm : none ∉ h) : h = (fill0 h).map some := by
  unfold fill0
  rw [List.map_map]
  refine (List.map_id h).symm.trans (List.map_congr_left fun x hx => ?_)
  cases x with
  | none => exact absurd hx hm
  | some b => rfl
theorem in_test (b : Bool) (an : ((h.map eO).any fun z => PyData.eqv z .none) = b) : tst (isIn false (kst .none) (rN 2)) (stU t kvs (slU (tO h)) o3 o4 o5 S) = some (b, stU t kvs (slU (tO h)) o3 o4 o5 S) := by
  have gi : gIn false (stU t kvs (slU (tO h)) o3 o4 o5 S) (.v .none) (.sl 2) = some (.v (.bool b)) := by
    show (if (SeqAt.shaped PyData.none && SeqAt.shaped (.tuple (h.map eO))) = true then some (U.v (.bool (if false = true then (!(h.map eO).any fun z => PyData.eqv z .none) else ((h.map eO).any fun z => PyData.eqv z .none)))) else none) = _
    rw [shaped_tup (flat_eO h), an]
    rfl
  simp only [q_tst, q_isIn, q_kst, Option.bind_some, q_rN]
  show (Option.map _ (gIn false (stU t kvs (slU (tO h)) o3 o4 o5 S) (.v .none) (.sl 2))).bind _ = _
  rw [gi]
  rfl
theorem sr_turn {n : Nat} (ht : t.length = 2 ^ n) (hn : n ≤ 9) {pre post : List (List (Option Int))} (e : halvesL n = post ++ h :: pre) (tk : tupKeys kvs = true) (hk : kvs.length < 16777216)
    (all : ∀ g ∈ pre, dget kvs (tO g) = some (.v (eO (sureO t g)))) :
    ∃ a b c, (sIf (tst (isIn false (kst .none) (rN 2))) (seq (sSet 3 (up (mth kIndex (rN 2) (aCons (kst .none) (aNil))))) (seq (sPar 4 5 (hCons (up (idx (rN 1) (fz (cal 3 F__law_with (aCons (nm 2) (aCons (nm 3) (aCons (kst (.int 0)) (aNil)))))))) (hCons (up (idx (rN 1) (fz (cal 3 F__law_with (aCons (nm 2) (aCons (nm 3) (aCons (kst (.int 1)) (aNil)))))))) (hNil)))) (sAsg (ifU (tst (eqR false (rN 4) (rN 5))) (nm 4) (kst .none)) (gS (rN 1) (nm 2))))) (sAsg (idx (rN 0) (fz (cal 1 F__law_number (aCons (nm 2) (aNil))))) (gS (rN 1) (nm 2)))) (stU t kvs (slU (tO h)) o3 o4 o5 S) = some (.nx, stU t (dput kvs (tO h) (.v (eO (sureO t h)))) (slU (tO h)) a b c S) := by
  have hmem : h ∈ halvesL n := by rw [e]; simp
  obtain ⟨hl, hh⟩ := halves_mem n h hmem
  have st := shaped_tup (flat_eO h)
  have an := any_none h
  by_cases hm : none ∈ h
  · have cn : h.contains none = true := by simp [hm]
    rw [cn] at an
    have hi : h.findIdx (· == none) < h.length := List.findIdx_lt_length_of_exists ⟨none, hm, rfl⟩
    have h0 : h[h.findIdx (· == none)]? = some none := by
      rw [List.getElem?_eq_getElem hi]
      have := List.findIdx_getElem (p := (· == none)) (xs := h) (w := hi)
      exact congrArg some (by simpa using this)
    rw [sure_step hh hi h0]
    rw [if_yes (st1 := stU t kvs (slU (tO h)) o3 o4 o5 S) (in_test true an)]
    exact sr_none hm (by omega) tk hk (all _ (halves_behind e h0 (.inl rfl))) (all _ (halves_behind e h0 (.inr rfl)))
  · have cn : h.contains none = false := by simp [hm]
    rw [cn] at an
    rw [if_no (st1 := stU t kvs (slU (tO h)) o3 o4 o5 S) (in_test false an)]
    have fb := fill0_fills hh
    have eh := full_map hm
    generalize fill0 h = r at *
    subst eh
    rw [sure_full fb.2.1]
    exact ⟨_, _, _, sr_full ht (by rw [← hl, List.length_map]) fb.2.1 tk hk⟩
theorem halves_nodup (n : Nat) : (halvesL n).Nodup := by
  have : ((halvesL n).map code).Nodup := by rw [halves_code]; exact List.nodup_range
  exact (List.pairwise_map.mp this).imp fun h e => h (congrArg _ e)
/-- all that is sure of a table -/
structure SureD (t : List Int) (n : Nat) (kvs : List (PyData × U)) : Prop where
  tup : tupKeys kvs = true
  keys : kvs.map (·.1) = (halvesL n).reverse.map tO
  get : ∀ h ∈ halvesL n, dget kvs (tO h) = some (.v (eO (sureO t h)))
theorem law_sure {n : Nat} (ht : t.length = 2 ^ n) (hn : n ≤ 9) (S : List Cell) : ∃ kvs, F__law_sure [.v (tI t)] S = some (.od kvs, S) ∧ SureD t n kvs := by
  have ep := law_places (ds := t.map .int) (m := n) (by rw [List.length_map, ht]) (by omega) S
  have eh := law_halves hn S
  have few := halves_le (n := n) (by omega)
  have nd := halves_nodup n
  obtain ⟨st', e, kvs, o2, o3, o4, o5, rfl, tk, ks, all⟩ := loopI (α := List (Option Int)) (b := (sIf (tst (isIn false (kst .none) (rN 2))) (seq (sSet 3 (up (mth kIndex (rN 2) (aCons (kst .none) (aNil))))) (seq (sPar 4 5 (hCons (up (idx (rN 1) (fz (cal 3 F__law_with (aCons (nm 2) (aCons (nm 3) (aCons (kst (.int 0)) (aNil)))))))) (hCons (up (idx (rN 1) (fz (cal 3 F__law_with (aCons (nm 2) (aCons (nm 3) (aCons (kst (.int 1)) (aNil)))))))) (hNil)))) (sAsg (ifU (tst (eqR false (rN 4) (rN 5))) (nm 4) (kst .none)) (gS (rN 1) (nm 2))))) (sAsg (idx (rN 0) (fz (cal 1 F__law_number (aCons (nm 2) (aNil))))) (gS (rN 1) (nm 2))))) (fun h => .v (.v (tO h))) (fun pre st => ∃ kvs o2 o3 o4 o5, st = stU t kvs o2 o3 o4 o5 S ∧ tupKeys kvs = true ∧ kvs.map (·.1) = pre.map tO ∧ ∀ h ∈ pre, dget kvs (tO h) = some (.v (eO (sureO t h)))) (g := onV (gN 2)) (halvesL n).reverse (stU t [] none none none none S) ⟨[], none, none, none, none, rfl, rfl, rfl, fun _ z => nomatch z⟩ (by
    rintro pre h post st e ⟨kvs, o2, o3, o4, o5, rfl, tk, ks, all⟩
    have e' : halvesL n = post.reverse ++ h :: pre.reverse := by
      have := congrArg List.reverse e
      rw [List.reverse_reverse] at this
      rw [this]
      simp
    have lk : kvs.length = pre.length := by
      have := congrArg List.length ks
      simpa using this
    have lp := pre_le e
    rw [List.length_reverse] at lp
    obtain ⟨a, b, c, et⟩ := sr_turn (S := S) (o3 := o3) (o4 := o4) (o5 := o5) ht hn e' tk (by omega) fun g hg => all g (List.mem_reverse.mp hg)
    have nw : dget kvs (tO h) = none := dget_out fun p hp q => by
      have : p.1 ∈ pre.map tO := by rw [← ks]; exact List.mem_map_of_mem hp
      obtain ⟨g, hg, eg⟩ := List.mem_map.mp this
      rw [← eg] at q
      have := kf_tO_inj q
      subst this
      have nd' : (pre ++ g :: post).Nodup := by rw [← e]; exact (List.reverse_perm _).nodup_iff.mpr nd
      exact (List.nodup_append.mp nd').2.2 g hg g List.mem_cons_self rfl
    refine ⟨_, _, rfl, .inl et, _, _, _, _, _, rfl, dput_tups tk rfl, ?_, fun g hg => ?_⟩
    · rw [dput_new nw, List.map_append, ks]
      simp
    · rw [dget_dput]
      rcases List.mem_append.mp hg with q | q
      · split
        · next z => rw [← kf_tO_inj z]
        · exact all g q
      · rw [List.mem_singleton.mp q, if_pos rfl])
  refine ⟨kvs, run_ret [slU (tI t), none, none, none, none, none] rfl ?_, tk, ks, fun h hh => all h (List.mem_reverse.mpr hh)⟩
  have e : fLoop (onV (gN 2)) _ ((halvesL n).reverse.map fun h => Itm.v (.v (tO h))) _ = _ := e
  unfold B__law_sure
  rw [seq_nx (st1 := stU t [] none none none none S) (by simp)]
  have ev : (vals (fz (rev (rU (fz (cal 1 F__law_halves (aCons (fz (cal 1 F__law_places (aCons (nm 0) (aNil)))) (aNil)))))))) (stU t [] none none none none S) = some ((halvesL n).reverse.map fun h => Itm.v (.v (tO h)), stU t [] none none none none S) := by
    simp [ep, eh, rev, Function.comp_def]
  rw [seq_nx (by rw [q_for, ev, Option.bind_some]; exact e)]
  simp
end
end Sp

namespace Sp
open PySem L2 MP Sh

/-! ## what many laws share -/
theorem num_inj : ∀ {n : Nat} {r s : List Int}, r.length = n → s.length = n → Bits r → Bits s → num r = num s → r = s
  | 0, r, s, hr, hs, _, _, _ => by rw [List.length_eq_zero_iff.mp hr, List.length_eq_zero_iff.mp hs]
  | n + 1, r, s, hr, hs, br, bs, e => by
    have nr : r ≠ [] := fun z => by rw [z] at hr; cases hr
    have ns : s ≠ [] := fun z => by rw [z] at hs; cases hs
    have er := List.dropLast_concat_getLast nr
    have es := List.dropLast_concat_getLast ns
    have bl := br _ (List.getLast_mem nr)
    have bm := bs _ (List.getLast_mem ns)
    have br' : Bits r.dropLast := fun x hx => br x ((List.dropLast_sublist r).subset hx)
    have bs' : Bits s.dropLast := fun x hx => bs x ((List.dropLast_sublist s).subset hx)
    generalize r.getLast nr = x at er bl
    generalize s.getLast ns = y at es bm
    rw [← er, ← es, num_app, num_app] at e
    have a : num r.dropLast = num s.dropLast ∧ x = y := by omega
    have ih := num_inj (n := n) (by simp [hr]) (by simp [hs]) br' bs' a.1
    rw [← er, ← es, ih, a.2]
theorem num_surj : ∀ (n k : Nat), k < 2 ^ n → ∃ s : List Int, s.length = n ∧ Bits s ∧ num s = (k : Int)
  | 0, k, h => ⟨[], rfl, (fun _ z => nomatch z), by
    have : k = 0 := by simpa using h
    rw [this]; rfl⟩
  | n + 1, k, h => by
    obtain ⟨s, a, b, c⟩ := num_surj n (k / 2) (by rw [Nat.pow_succ] at h; omega)
    refine ⟨s ++ [((k % 2 : Nat) : Int)], by simp [a], fun x hx => ?_, by rw [num_app, c]; omega⟩
    rcases List.mem_append.mp hx with q | q
    · exact b x q
    · rw [List.mem_singleton.mp q]
      omega
theorem law_same {n W : Nat} {d : PyData} (h : Tame n W d) (hn : n ≤ 64) (hW : W ≤ 1048576) (S : List Cell) : F__law_same [.v d, .v d] S = some (.u (.v (.bool true)), S) := by
  refine run_ret [slU d, slU d] rfl ?_
  have q := q_repr h hn hW
  have sh := shaped_str h.ok
  unfold B__law_same
  simp [q, sh]
theorem tame_bits {r : List Int} (h : Bits r) : Tame 1 (r.length * 42) (tI r) := by
  refine tame_tuple (n := 0) (W := 41) (fun d hd => ?_) (by rw [List.length_map]; omega)
  obtain ⟨x, hx, rfl⟩ := List.mem_map.mp hd
  exact tame_int (by rcases h x hx with q | q <;> omega) (Nat.le_refl _)
theorem Mill.app {S : List Cell} {l d : Nat} (M : Mill S l d) (c : Cell) : Mill (S ++ [c]) l d := by
  obtain ⟨ne, deep, sl, turn, a, b, p, q⟩ := M
  refine ⟨ne, deep, sl, turn, ?_, ?_, p, q⟩
  · rw [List.getElem?_append_left (by
      rcases Nat.lt_or_ge l S.length with q | q
      · exact q
      · rw [List.getElem?_eq_none q] at a; cases a), a]
  · rw [List.getElem?_append_left (by
      rcases Nat.lt_or_ge d S.length with q | q
      · exact q
      · rw [List.getElem?_eq_none q] at b; cases b), b]
theorem Mill.lt {S : List Cell} {l d : Nat} (M : Mill S l d) : l < S.length ∧ d < S.length := by
  obtain ⟨ne, deep, sl, turn, a, b, p, q⟩ := M
  constructor
  · rcases Nat.lt_or_ge l S.length with q | q
    · exact q
    · rw [List.getElem?_eq_none q] at a; cases a
  · rcases Nat.lt_or_ge d S.length with q | q
    · exact q
    · rw [List.getElem?_eq_none q] at b; cases b
/-- a dict that is in a slot, or stands in a cell besides the mill -/
def InD (o : Option O) (S : List Cell) (l d : Nat) (kvs : List (PyData × U)) : Prop := o = some (.od kvs) ∨ ∃ k, o = some (.u (.ref k)) ∧ S[k]? = some (.cd kvs) ∧ k ≠ l ∧ k ≠ d
def InL (o : Option O) (xs : List PyData) : Prop := o = some (.ol xs) ∨ o = slU (.list xs)
theorem row_of_mem {m : Nat} {x : PyData} (h : x ∈ (rows m).map tI) : ∃ row, x = tI row ∧ row.length = m ∧ Bits row := by
  obtain ⟨row, hr, rfl⟩ := List.mem_map.mp h
  exact ⟨row, rfl, rows_mem m row hr, rows_bits m row hr⟩
theorem rows_ne (m : Nat) : (rows m).map tI ≠ [] := by
  have : 0 < (rows m).length := by rw [rows_len]; exact Nat.two_pow_pos m
  intro z
  rw [List.map_eq_nil_iff.mp z] at this
  cases this
end Sp

namespace Sp
open PySem L2 MP Sh

/-! ## sorting by a def -/
theorem srt_map {α : Type} {enc : α → PyData} {k : PyData → PyData} {le : α → α → Bool} {xs : List α} (h : ∀ a ∈ xs, ∀ b ∈ xs, le a b = !PySem.W.dataLt (k (enc b)) (k (enc a))) : srt k (xs.map enc) = (xs.mergeSort le).map enc :=
  (List.map_mergeSort fun a ha b hb => h a ha b hb).symm
theorem keyed_of {α : Type} {F : FnS} {S : List Cell} {enc : α → PyData} {key : α → PyData} {xs : List α} (h : ∀ a ∈ xs, F [.v (enc a)] S = some (.u (.v (key a)), S)) (hi : ∀ a ∈ xs, isImm (key a) = true) (hal : alikeB (xs.map key) = true) :
    Keyed F S (xs.map enc) ∧ ∀ a ∈ xs, MP.keyOf F S (enc a) = key a := by
  have e : ∀ a ∈ xs, MP.keyOf F S (enc a) = key a := fun a ha => by
    unfold MP.keyOf
    rw [h a ha]
  refine ⟨⟨fun d hd => ?_, ?_⟩, e⟩
  · obtain ⟨a, ha, rfl⟩ := List.mem_map.mp hd
    rw [e a ha]
    exact ⟨h a ha, hi a ha⟩
  · have : (xs.map enc).map (MP.keyOf F S) = xs.map key := by
      rw [List.map_map]
      exact List.map_congr_left fun a ha => e a ha
    rw [this]
    exact hal
theorem srtBy_l {α : Type} {F : FnS} {fr : EvR} {st st1 : Stt} {hn : Hn} {enc : α → PyData} {key : α → PyData} {le : α → α → Bool} {xs : List α} (e1 : fr st = some (hn, st1)) (e2 : look st1 hn = some (.l (xs.map enc)))
    (h : ∀ a ∈ xs, F [.v (enc a)] st1.S = some (.u (.v (key a)), st1.S)) (hi : ∀ a ∈ xs, isImm (key a) = true) (hal : alikeB (xs.map key) = true) (hle : ∀ a ∈ xs, ∀ b ∈ xs, le a b = !PySem.W.dataLt (key b) (key a)) :
    srtBy F fr st = some (.ol ((xs.mergeSort le).map enc), st1) := by
  obtain ⟨K, ke⟩ := keyed_of h hi hal
  unfold srtBy
  rw [e1, Option.bind_some]
  simp only
  rw [e2, Option.bind_some]
  simp only
  rw [if_pos K, srt_map (le := le) fun a ha b hb => by rw [ke a ha, ke b hb]; exact hle a ha b hb]
theorem srtBy_d {α : Type} {F : FnS} {fr : EvR} {st st1 : Stt} {hn : Hn} {enc : α → PyData} {key : α → PyData} {le : α → α → Bool} {xs : List α} {kvs : List (PyData × U)} (e1 : fr st = some (hn, st1)) (e2 : look st1 hn = some (.d kvs)) (ek : kvs.map (·.1) = xs.map enc)
    (h : ∀ a ∈ xs, F [.v (enc a)] st1.S = some (.u (.v (key a)), st1.S)) (hi : ∀ a ∈ xs, isImm (key a) = true) (hal : alikeB (xs.map key) = true) (hle : ∀ a ∈ xs, ∀ b ∈ xs, le a b = !PySem.W.dataLt (key b) (key a)) :
    srtBy F fr st = some (.ol ((xs.mergeSort le).map enc), st1) := by
  obtain ⟨K, ke⟩ := keyed_of h hi hal
  unfold srtBy
  rw [e1, Option.bind_some]
  simp only
  rw [e2, Option.bind_some]
  simp only
  rw [ek, if_pos K, srt_map (le := le) fun a ha b hb => by rw [ke a ha, ke b hb]; exact hle a ha b hb]
theorem alike_intsB (xs : List Int) : alikeB (xs.map .int) = true := alike_ints xs
theorem int_le (a b : Int) : decide (a ≤ b) = !PySem.W.dataLt (.int b) (.int a) := by
  rw [PySem.W.dataLt_int]
  by_cases c : a ≤ b
  · rw [decide_eq_true c, decide_eq_false (by omega)]
    rfl
  · rw [decide_eq_false c, decide_eq_true (by omega)]
    rfl
/-! ## rows that fill a half row -/
def fillStep (acc : List (List Int)) (x : Option Int) : List (List Int) := match x with
  | none => acc.map (· ++ [0]) ++ acc.map (· ++ [1])
  | some b => acc.map (· ++ [b])
def fillsL (h : List (Option Int)) : List (List Int) := h.foldl fillStep [[]]
theorem fills_app (h : List (Option Int)) (x : Option Int) : fillsL (h ++ [x]) = fillStep (fillsL h) x := by simp [fillsL]
theorem fills_cons {r : List Int} {x : Option Int} {h : List (Option Int)} (hx : x = none ∨ x = some 0 ∨ x = some 1) : Fills r (x :: h) ↔ ∃ b r', r = b :: r' ∧ (x = none ∧ (b = 0 ∨ b = 1) ∨ x = some b) ∧ Fills r' h := by
  constructor
  · rintro ⟨h1, h2, h3⟩
    cases r with
    | nil => cases h1
    | cons b r' =>
      refine ⟨b, r', rfl, ?_, by simpa using h1, fun y hy => h2 y (List.mem_cons_of_mem _ hy), fun i c e => by simpa using h3 (i + 1) c (by simpa using e)⟩
      have hb := h2 b List.mem_cons_self
      cases x with
      | none => exact .inl ⟨rfl, hb⟩
      | some c =>
        have := h3 0 c rfl
        simp at this
        exact .inr (by rw [this])
  · rintro ⟨b, r', rfl, hb, h1, h2, h3⟩
    refine ⟨by simp [h1], fun y hy => ?_, fun i c e => ?_⟩
    · rcases List.mem_cons.mp hy with rfl | hy
      · rcases hb with ⟨_, hb⟩ | hb
        · exact hb
        · rw [hb] at hx
          rcases hx with z | z | z
          · cases z
          · injection z with z
            exact .inl z
          · injection z with z
            exact .inr z
      · exact h2 y hy
    · cases i with
      | zero =>
        simp at e
        subst e
        rcases hb with ⟨z, _⟩ | z
        · cases z
        · injection z with z
          simp [z]
      | succ i => simpa using h3 i c (by simpa using e)
theorem mem_fills_from : ∀ {h : List (Option Int)}, Half h → ∀ (acc : List (List Int)) (r : List Int), r ∈ h.foldl fillStep acc ↔ ∃ a ∈ acc, ∃ s, Fills s h ∧ r = a ++ s
  | [], _, acc, r => by
    constructor
    · intro m
      exact ⟨r, m, [], ⟨rfl, (fun _ z => nomatch z), fun i b e => by simp at e⟩, by simp⟩
    · rintro ⟨a, m, s, ⟨h1, _, _⟩, rfl⟩
      have : s = [] := List.length_eq_zero_iff.mp h1
      subst this
      simpa using m
  | x :: h, hh, acc, r => by
    have hh' : Half h := fun y hy => hh y (List.mem_cons_of_mem _ hy)
    have hx := hh x List.mem_cons_self
    rw [List.foldl_cons, mem_fills_from hh']
    constructor
    · rintro ⟨a, m, s, f, rfl⟩
      cases x with
      | none =>
        rcases List.mem_append.mp m with m | m
        · obtain ⟨c, mc, rfl⟩ := List.mem_map.mp m
          exact ⟨c, mc, 0 :: s, (fills_cons hx).mpr ⟨0, s, rfl, .inl ⟨rfl, .inl rfl⟩, f⟩, by simp⟩
        · obtain ⟨c, mc, rfl⟩ := List.mem_map.mp m
          exact ⟨c, mc, 1 :: s, (fills_cons hx).mpr ⟨1, s, rfl, .inl ⟨rfl, .inr rfl⟩, f⟩, by simp⟩
      | some b =>
        obtain ⟨c, mc, rfl⟩ := List.mem_map.mp m
        exact ⟨c, mc, b :: s, (fills_cons hx).mpr ⟨b, s, rfl, .inr rfl, f⟩, by simp⟩
    · rintro ⟨a, m, s, f, rfl⟩
      obtain ⟨b, r', rfl, hb, f'⟩ := (fills_cons hx).mp f
      refine ⟨a ++ [b], ?_, r', f', by simp⟩
      rcases hb with ⟨rfl, hb⟩ | rfl
      · rcases hb with rfl | rfl
        · exact List.mem_append_left _ (List.mem_map_of_mem m)
        · exact List.mem_append_right _ (List.mem_map_of_mem m)
      · exact List.mem_map_of_mem m
theorem mem_fills {h : List (Option Int)} (hh : Half h) {r : List Int} : r ∈ fillsL h ↔ Fills r h := by
  unfold fillsL
  rw [mem_fills_from hh]
  constructor
  · rintro ⟨a, m, s, f, rfl⟩
    rw [List.mem_singleton.mp m]
    exact f
  · intro f
    exact ⟨[], List.mem_singleton.mpr rfl, r, f, rfl⟩
theorem fills_few : ∀ (h : List (Option Int)), (fillsL h).length ≤ 2 ^ h.length := by
  have go : ∀ (h : List (Option Int)) (acc : List (List Int)), (h.foldl fillStep acc).length ≤ acc.length * 2 ^ h.length := by
    intro h
    induction h with
    | nil => intro acc; simp
    | cons x h ih =>
      intro acc
      rw [List.foldl_cons, List.length_cons, Nat.pow_succ]
      refine Nat.le_trans (ih _) ?_
      have : (fillStep acc x).length ≤ acc.length * 2 := by
        cases x <;> simp [fillStep] <;> omega
      calc (fillStep acc x).length * 2 ^ h.length ≤ acc.length * 2 * 2 ^ h.length := Nat.mul_le_mul_right _ this
        _ = acc.length * (2 ^ h.length * 2) := by rw [Nat.mul_assoc, Nat.mul_comm 2]
  intro h
  have := go h [[]]
  simpa [fillsL] using this
theorem fills_nodup : ∀ {h : List (Option Int)}, Half h → (fillsL h).Nodup := by
  have app : ∀ {l : List (List Int)} (b : Int), l.Nodup → (l.map (· ++ [b])).Nodup := fun {l} b hl => by
    refine List.pairwise_map.mpr (hl.imp fun {x y} h e => h ?_)
    exact List.append_cancel_right e
  have go : ∀ (h : List (Option Int)) (acc : List (List Int)), acc.Nodup → (h.foldl fillStep acc).Nodup := by
    intro h
    induction h with
    | nil => exact fun acc h => h
    | cons x h ih =>
      intro acc hacc
      refine ih _ ?_
      cases x with
      | none =>
        refine List.nodup_append.mpr ⟨app 0 hacc, app 1 hacc, fun a ha b hb e => ?_⟩
        obtain ⟨c, _, rfl⟩ := List.mem_map.mp ha
        obtain ⟨d, _, rfl⟩ := List.mem_map.mp hb
        have := congrArg List.getLast? e
        simp at this
      | some b => exact app b hacc
  intro h _
  exact go h _ (by simp)
end Sp

namespace Sp
open PySem L2 MP Sh

/-! ## rows_filling, walked -/
theorem alike_intsT : ∀ xs ys : List Int, PySem.W.alikeAll (xs.map PyData.int) (ys.map PyData.int) = true
  | [], _ => by simp [PySem.W.alikeAll]
  | _ :: _, [] => by simp [PySem.W.alikeAll]
  | x :: xs, y :: ys => by simp [PySem.W.alikeAll, PySem.W.alike, alike_intsT xs ys]
def deR : PyData → List Int
  | .tuple xs => xs.map fun | .int i => i | _ => 0
  | _ => []
theorem deR_tI (r : List Int) : deR (tI r) = r := by
  show (r.map PyData.int).map _ = r
  rw [List.map_map]
  exact (List.map_congr_left fun x _ => rfl).trans (List.map_id r)
theorem sorted_rows {rs : List (List Int)} {n : Nat} (hl : ∀ r ∈ rs, r.length = n) : ∃ ls : List (List Int), kSorted (.l (rs.map tI)) = some (.ol (ls.map tI)) ∧ ls.Perm rs := by
  have pm : (srt id (rs.map tI)).Perm (rs.map tI) := List.mergeSort_perm _ _
  obtain ⟨ls, e, p⟩ := perm_back deR_tI pm
  refine ⟨ls, ?_, p⟩
  have h1 : alikeB (rs.map tI) = true := by
    unfold alikeB
    rw [List.all_eq_true]
    intro x hx
    rw [List.all_eq_true]
    intro y hy
    obtain ⟨a, -, rfl⟩ := List.mem_map.mp hx
    obtain ⟨b, -, rfl⟩ := List.mem_map.mp hy
    simp [PySem.W.alike, alike_intsT]
  have h2 : sortB (rs.map tI) = true := by
    unfold sortB
    cases n with
    | zero =>
      cases rs with
      | nil => rfl
      | cons r rs =>
        have a1 : ((r :: rs).map tI).all isTup = true := by
          rw [List.all_eq_true]
          intro x hx
          obtain ⟨a, -, rfl⟩ := List.mem_map.mp hx
          rfl
        have : r = [] := List.length_eq_zero_iff.mp (hl r List.mem_cons_self)
        rw [a1, this]
        simp
        rfl
    | succ n =>
      rw [Bool.or_eq_true, Bool.or_eq_true]
      refine .inl (.inl ?_)
      rw [List.all_eq_true]
      intro x hx
      obtain ⟨a, ha, rfl⟩ := List.mem_map.mp hx
      have := hl a ha
      cases a with
      | nil => cases this
      | cons b a => rfl
  have h3 : (rs.map tI).all SeqAt.shaped = true := by
    rw [List.all_eq_true]
    intro x hx
    obtain ⟨a, -, rfl⟩ := List.mem_map.mp hx
    exact shaped_tup flat_ints
  show (if (alikeB (rs.map tI) && sortB (rs.map tI) && (rs.map tI).all SeqAt.shaped) = true then some (O.ol (srt id (rs.map tI))) else none) = _
  rw [h1, h2, h3, e]
  rfl
section
variable {t : List Int} {S : List Cell} {h : List (Option Int)} {o1 o2 o3 : Option O} {n : Nat}
abbrev stF (h : List (Option Int)) (o1 o2 o3 : Option O) (S : List Cell) : Stt := ⟨[slU (tO h), o1, o2, o3], S, []⟩
theorem rf_col {b : Int} {e : EvU} {rs : List (List Int)} (hrs : rs.length ≤ 1000000) (he : ∀ r ∈ rs, ∀ hd, e ⟨[slU (tO h), slU (.list (rs.map tI)), o2, slU (tI r)], S, hd⟩ = some (.v (tI (r ++ [b])), ⟨[slU (tO h), slU (.list (rs.map tI)), o2, slU (tI r)], S, hd⟩)) (h1 : o1 = some (.ol (rs.map tI)) ∨ o1 = slU (.list (rs.map tI))) :
    lc (vals (nm 1)) (onV (gN 3)) yes e [3] (stF h o1 o2 none S) = some (.ol ((rs.map (· ++ [b])).map tI), stF h (slU (.list (rs.map tI))) o2 none S) := by
  have q := lcV1 (i := 3) (st := stF h o1 o2 none S) (r0 := [slU (tO h), slU (.list (rs.map tI)), o2, none]) (S := S) (h := []) (f := vals (nm 1)) (e := e) tI (fun r => tI (r ++ [b])) rs (by rcases h1 with rfl | rfl <;> simp [Function.comp_def]) (by simp) (fun r hr hd => he r hr hd) (by omega)
  rw [q]
  simp [keepU]
theorem rf_turn {x : Option Int} {rs : List (List Int)} (hrs : rs.length ≤ 1000000) (hl : ∀ r ∈ rs, r.length ≤ 1000) (h1 : o1 = some (.ol (rs.map tI)) ∨ o1 = slU (.list (rs.map tI))) :
    ∃ o1', (sIf (tst (bin gIs (nm 2) (kst .none))) (sSet 1 (up (bin gAdd (fz (lc (vals (nm 1)) (onV (gN 3)) (yes) (bin gAdd (nm 3) (tupF (aCons (kst (.int 0)) (aNil)))) [3])) (fz (lc (vals (nm 1)) (onV (gN 3)) (yes) (bin gAdd (nm 3) (tupF (aCons (kst (.int 1)) (aNil)))) [3]))))) (sSet 1 (lc (vals (nm 1)) (onV (gN 3)) (yes) (bin gAdd (nm 3) (tupF (aCons (nm 2) (aNil)))) [3]))) (stF h o1 (slU (eO x)) none S) = some (.nx, stF h o1' (slU (eO x)) none S) ∧ (o1' = some (.ol ((fillStep rs x).map tI)) ∨ o1' = slU (.list ((fillStep rs x).map tI))) := by
  have k1 := lineOk_of (show 1 ≤ 16777216 by omega)
  cases x with
  | none =>
    have q0 := rf_col (h := h) (o1 := o1) (o2 := slU .none) (S := S) (b := 0) (e := (bin gAdd (nm 3) (tupF (aCons (kst (.int 0)) (aNil))))) (rs := rs) hrs (fun r hr hd => by
      have := hl r hr
      simp [k1, lineOk_of (show r.length + 1 ≤ 16777216 by omega)]) h1
    have q1 := rf_col (h := h) (o1 := slU (.list (rs.map tI))) (o2 := slU .none) (S := S) (b := 1) (e := (bin gAdd (nm 3) (tupF (aCons (kst (.int 1)) (aNil))))) (rs := rs) hrs (fun r hr hd => by
      have := hl r hr
      simp [k1, lineOk_of (show r.length + 1 ≤ 16777216 by omega)]) (.inr rfl)
    refine ⟨slU (.list ((fillStep rs none).map tI)), ?_, .inr rfl⟩
    rw [if_yes (st1 := stF h o1 (slU .none) none S) (by simp [eO])]
    generalize hk : (lc (vals (nm 1)) (onV (gN 3)) (yes) (bin gAdd (nm 3) (tupF (aCons (kst (.int 0)) (aNil)))) [3]) = kx at q0 ⊢
    generalize hk2 : (lc (vals (nm 1)) (onV (gN 3)) (yes) (bin gAdd (nm 3) (tupF (aCons (kst (.int 1)) (aNil)))) [3]) = ky at q1 ⊢
    simp only [q_set, q_up, q_bin, q_fz, q0, q1, Option.bind_some, Option.map_some, q_addL, List.length_map, lineOk_of (show rs.length + rs.length ≤ 16777216 by omega), if_true, fillStep, List.map_append]
    simp [eO]
  | some b =>
    have q0 := rf_col (h := h) (o1 := o1) (o2 := slU (.int b)) (S := S) (b := b) (e := (bin gAdd (nm 3) (tupF (aCons (nm 2) (aNil))))) (rs := rs) hrs (fun r hr hd => by
      have := hl r hr
      simp [k1, lineOk_of (show r.length + 1 ≤ 16777216 by omega)]) h1
    refine ⟨some (.ol ((fillStep rs (some b)).map tI)), ?_, .inl rfl⟩
    rw [if_no (st1 := stF h o1 (slU (.int b)) none S) (by simp [eO])]
    generalize hk : (lc (vals (nm 1)) (onV (gN 3)) (yes) (bin gAdd (nm 3) (tupF (aCons (nm 2) (aNil)))) [3]) = kx at q0 ⊢
    simp only [q_set, q0, Option.bind_some, fillStep, eO]
    simp
theorem rows_filling (hh : Half h) (hn : h.length ≤ 9) (S : List Cell) : ∃ rs : List (List Int), F_rows_filling [.v (tO h)] S = some (.u (.v (.tuple (rs.map tI))), S) ∧ rs.Perm (fillsL h) := by
  obtain ⟨st', e, x1, x2, rfl, h1⟩ := loopI (α := Option Int) (b := (sIf (tst (bin gIs (nm 2) (kst .none))) (sSet 1 (up (bin gAdd (fz (lc (vals (nm 1)) (onV (gN 3)) (yes) (bin gAdd (nm 3) (tupF (aCons (kst (.int 0)) (aNil)))) [3])) (fz (lc (vals (nm 1)) (onV (gN 3)) (yes) (bin gAdd (nm 3) (tupF (aCons (kst (.int 1)) (aNil)))) [3]))))) (sSet 1 (lc (vals (nm 1)) (onV (gN 3)) (yes) (bin gAdd (nm 3) (tupF (aCons (nm 2) (aNil)))) [3])))) (fun x => .v (.v (eO x))) (fun pre st => ∃ o1 o2 : Option O, st = stF h o1 o2 none S ∧ (o1 = some (.ol ((fillsL pre).map tI)) ∨ o1 = slU (.list ((fillsL pre).map tI)))) (g := onV (gN 2)) h (stF h (some (.ol ([[]].map tI))) none none S) ⟨_, _, rfl, .inl rfl⟩ (by
    rintro pre x post st e ⟨o1, o2, rfl, h1⟩
    have l1 := pre_le e
    have hp : Half pre := fun y hy => hh y (by rw [e]; exact List.mem_append_left _ hy)
    have l2 : (fillsL pre).length ≤ 2 ^ 9 := Nat.le_trans (fills_few pre) (two_pow_le (by omega))
    have l3 : (2 : Nat) ^ 9 = 512 := by decide
    obtain ⟨o1', q, h1'⟩ := rf_turn (h := h) (S := S) (x := x) (rs := fillsL pre) (by omega) (fun r hr => by have := ((mem_fills hp).mp hr).1; omega) h1
    exact ⟨_, _, by simp, .inl q, o1', _, rfl, by rw [fills_app]; exact h1'⟩)
  have l2 : (fillsL h).length ≤ 2 ^ 9 := Nat.le_trans (fills_few h) (two_pow_le hn)
  have l3 : (2 : Nat) ^ 9 = 512 := by decide
  obtain ⟨rs, es, pm⟩ := sorted_rows (rs := fillsL h) (n := h.length) fun r hr => ((mem_fills hh).mp hr).1
  refine ⟨rs, run_ret [slU (tO h), none, none, none] rfl ?_, pm⟩
  have e : fLoop (onV (gN 2)) _ (h.map fun x => Itm.v (.v (eO x))) _ = _ := e
  have k0 := lineOk_of (show 0 ≤ 16777216 by omega)
  have k1 := lineOk_of (show 1 ≤ 16777216 by omega)
  unfold B_rows_filling
  rw [seq_nx (st1 := stF h (some (.ol ([[]].map tI))) none none S) (by simp [k0, k1])]
  have ev : vals (nm 0) (stF h (some (.ol ([[]].map tI))) none none S) = some (h.map fun x => Itm.v (.v (eO x)), stF h (some (.ol ([[]].map tI))) none none S) := by
    simp [Function.comp_def]
  rw [seq_nx (by rw [q_for, ev, Option.bind_some]; exact e)]
  refine sret_ex ?_
  rcases h1 with rfl | rfl
  · simp only [q_b1, q_rU, q_fz, q_rN, q_lookS, List.getElem?_cons_succ, List.getElem?_cons_zero, Option.bind_some, Option.map_some, q_sqOl, es, q_lookU, q_sqL, kTuple]
    exact ⟨_, _, rfl⟩
  · simp only [q_b1, q_rU, q_fz, q_rN, q_lookS, List.getElem?_cons_succ, List.getElem?_cons_zero, Option.bind_some, Option.map_some, es, q_lookU, q_sqL, kTuple]
    exact ⟨_, _, rfl⟩
/-! ## sure_on -/
theorem value_at {r : List Int} (ht : t.length = 2 ^ n) (hr : r.length = n) (hb : Bits r) (S : List Cell) : F_value_at [.v (tI t), .v (tI r)] S = some (.u (.v (.int (t.getD (num r).toNat 0))), S) := by
  have lt := num_lt n r hr hb
  have a1 := atI_getD (t := t) lt.1 (by rw [ht]; omega)
  have en := number_of r S
  refine run_ret [slU (tI t), slU (tI r)] rfl ?_
  unfold B_value_at
  generalize tI r = dr at *
  simp [en, a1]
theorem sure_vals {rs : List (List Int)} (hh : Half h) (pm : rs.Perm (fillsL h)) {v : Int} {vs : List Int} (e : rs.map (fun r => t.getD (num r).toNat 0) = v :: vs) : sureO t h = if (v :: vs).countP (· == v) = (v :: vs).length then some v else none := by
  have mem : ∀ x, x ∈ v :: vs ↔ ∃ r, Fills r h ∧ t.getD (num r).toNat 0 = x := fun x => by
    rw [← e, List.mem_map]
    constructor
    · rintro ⟨r, hr, rfl⟩
      exact ⟨r, (mem_fills hh).mp (pm.mem_iff.mp hr), rfl⟩
    · rintro ⟨r, hr, rfl⟩
      exact ⟨r, pm.mem_iff.mpr ((mem_fills hh).mpr hr), rfl⟩
  split
  · next c =>
    refine (sure_iff hh v).mpr fun r f => ?_
    have := List.countP_eq_length.mp c _ ((mem _).mpr ⟨r, f, rfl⟩)
    exact beq_iff_eq.mp this
  · next c =>
    refine (sure_none hh).mpr fun w q => c (List.countP_eq_length.mpr fun x hx => ?_)
    obtain ⟨r, f, rfl⟩ := (mem x).mp hx
    obtain ⟨r0, f0, e0⟩ := (mem v).mp List.mem_cons_self
    rw [q r f, ← e0, q r0 f0]
    exact beq_self_eq_true _
theorem count_int (v : Int) (vs : List Int) : ((vs.map PyData.int).countP fun z => PyData.eqv z (.int v)) = vs.countP (· == v) := by
  rw [List.countP_map]
  rfl
theorem sure_on (ht : t.length = 2 ^ n) (hh : Half h) (hl : h.length = n) (hn : n ≤ 9) (S : List Cell) : F_sure_on [.v (tI t), .v (tO h)] S = some (.u (.v (eO (sureO t h))), S) := by
  obtain ⟨rs, er, pm⟩ := rows_filling hh (by omega) S
  have l2 : (fillsL h).length ≤ 2 ^ 9 := Nat.le_trans (fills_few h) (two_pow_le (by omega))
  have l3 : (2 : Nat) ^ 9 = 512 := by decide
  have lr := pm.length_eq
  have ne : rs ≠ [] := by
    intro z
    have := pm.mem_iff.mpr ((mem_fills hh).mpr (fill0_fills hh))
    rw [z] at this
    cases this
  have e1 := lcV1 (i := 3) (st := ⟨[slU (tI t), slU (tO h), none, none], S, []⟩) (r0 := [slU (tI t), slU (tO h), none, none]) (S := S) (h := []) (f := (vals (fz (cal 1 F_rows_filling (aCons (nm 1) (aNil)))))) (e := (fz (cal 2 F_value_at (aCons (nm 0) (aCons (nm 3) (aNil)))))) tI (fun r => .int (t.getD (num r).toNat 0)) rs (by simp [er, Function.comp_def]) (by simp) (fun r hr hd => by
    have f := (mem_fills hh).mp (pm.mem_iff.mp hr)
    have := value_at ht (f.1.trans hl) f.2.1 S
    generalize tI r = dr at *
    simp [this]) (by omega)
  refine run_ret [slU (tI t), slU (tO h), none, none] rfl ?_
  obtain ⟨v, vs, ev⟩ : ∃ v vs, rs.map (fun r => t.getD (num r).toNat 0) = v :: vs := by
    cases rs with
    | nil => exact absurd rfl ne
    | cons r rs => exact ⟨_, _, rfl⟩
  have e2 : rs.map (fun r => PyData.int (t.getD (num r).toNat 0)) = (v :: vs).map .int := by
    rw [← ev, List.map_map]
    rfl
  rw [e2] at e1
  have lv : (v :: vs).length = rs.length := by rw [← ev, List.length_map]
  have sv := sure_vals hh pm ev
  have c1 := count_int v (v :: vs)
  have a1 : atI ((v :: vs).map PyData.int) 0 = some (.int v) := atI_map (row := v :: vs) (p := 0) (by omega) (by simp)
  have sh : SeqAt.shaped (.list ((v :: vs).map .int)) = true := shaped_lst flat_ints
  have kc : kCount (.l ((v :: vs).map .int)) [.v (.int v)] = some (.v (.int ((v :: vs).countP (· == v) : Nat))) := by
    show (if (SeqAt.shaped (.list ((v :: vs).map .int)) && SeqAt.shaped (.int v)) = true then some (U.v (.int (((v :: vs).map PyData.int).countP fun z => PyData.eqv z (.int v) : Nat))) else none) = _
    rw [sh, c1]
    rfl
  unfold B_sure_on
  generalize hk : (lc (vals (fz (cal 1 F_rows_filling (aCons (nm 1) (aNil))))) (onV (gN 3)) (yes) (fz (cal 2 F_value_at (aCons (nm 0) (aCons (nm 3) (aNil))))) [3]) = kx at e1 ⊢
  have ln : ((v :: vs).map PyData.int).length = (v :: vs).length := List.length_map _
  generalize (v :: vs).map PyData.int = ds at *
  rw [seq_nx (st1 := ⟨[slU (tI t), slU (tO h), some (.ol ds), none], S, []⟩) (by simp [e1, keepU])]
  rw [sv]
  by_cases c : (v :: vs).countP (· == v) = (v :: vs).length
  · rw [if_pos c]
    rw [c] at kc
    simp only [q_ret, q_ifO, q_tst, q_eqR, q_rU, q_mth, q_rN, List.getElem?_cons_succ, List.getElem?_cons_zero, Option.bind_some, Option.map_some, q_lookS, q_sqOl, q_aCons, q_aNil, q_idx, q_kst, q_gIx, a1, q_tyL, if_true, kc, q_fz, q_b1, q_lenL, q_datV, ln, shaped_int, Bool.and_self, eqv_int, beq_self_eq_true, q_boolOf, q_up]
    exact ⟨_, _, rfl⟩
  · rw [if_neg c]
    have c' : ((((v :: vs).countP (· == v) : Nat) : Int) == (((v :: vs).length : Nat) : Int)) = false := by
      rw [beq_eq_false_iff_ne]
      omega
    simp only [q_ret, q_ifO, q_tst, q_eqR, q_rU, q_mth, q_rN, List.getElem?_cons_succ, List.getElem?_cons_zero, Option.bind_some, Option.map_some, q_lookS, q_sqOl, q_aCons, q_aNil, q_idx, q_kst, q_gIx, a1, q_tyL, if_true, kc, q_fz, q_b1, q_lenL, q_datV, ln, shaped_int, Bool.and_self, eqv_int, c', q_boolOf, q_up]
    exact ⟨_, _, rfl⟩
end
end Sp

namespace Sp
open PySem L2 MP Sh

/-! ## the program's half rows, and what is sure on them -/
theorem halves {many : Nat} (h1 : 1 ≤ many) (hm : many ≤ 9) (S : List Cell) : F_halves [.v (.int many)] S = some (.u (.v (.list ((halvesL many).map tO))), S) := by
  refine run_ret [slU (.int many), none, none, none, none] rfl ?_
  obtain ⟨st', e, x1, a, b, c, rfl, h2, h3⟩ := loopI (α := Nat) (b := (seq (sSet 3 (lstF (aNil))) (seq (sFor (vals (nm 1)) (onV (gN 4)) (sDo (up (lmt kExtend (rN 3) (aCons (fz (lstF (aCons (bin gAdd (nm 4) (tupF (aCons (kst .none) (aNil)))) (aCons (bin gAdd (nm 4) (tupF (aCons (kst (.int 0)) (aNil)))) (aCons (bin gAdd (nm 4) (tupF (aCons (kst (.int 1)) (aNil)))) (aNil)))))) (aNil)))))) (sSet 1 (up (nm 3)))))) (fun i => .v (.v (.int (i : Nat)))) (fun pre st => ∃ x1 a b c : Option O, st = ⟨[slU (.int many), x1, a, b, c], S, []⟩ ∧ (x1 = some (.ol ((halvesL pre.length).map tO)) ∨ x1 = slU (.list ((halvesL pre.length).map tO))) ∧ (1 ≤ pre.length → x1 = slU (.list ((halvesL pre.length).map tO)))) (g := onV (gN 2)) (List.range many) ⟨[slU (.int many), some (.ol [.tuple []]), none, none, none], S, []⟩ ⟨_, _, _, _, rfl, .inl rfl, fun z => absurd z (by decide)⟩ (by
      rintro pre i post st e ⟨x1, a, b, c, rfl, h2, -⟩
      have hp : pre.length < many := by
        have := pre_le e
        rwa [List.length_range] at this
      have big := halves_le (show pre.length ≤ 10 by omega)
      obtain ⟨st', e3, acc, o, ha, rfl⟩ := loopI (α := List (Option Int)) (b := (sDo (up (lmt kExtend (rN 3) (aCons (fz (lstF (aCons (bin gAdd (nm 4) (tupF (aCons (kst .none) (aNil)))) (aCons (bin gAdd (nm 4) (tupF (aCons (kst (.int 0)) (aNil)))) (aCons (bin gAdd (nm 4) (tupF (aCons (kst (.int 1)) (aNil)))) (aNil)))))) (aNil))))))
        (fun r => .v (.v (tO r))) (fun p st => ∃ (acc : List (List (Option Int))) (o : Option O), acc = p.flatMap split3 ∧ st = ⟨[slU (.int many), slU (.list ((halvesL pre.length).map tO)), slU (.int i), some (.ol (acc.map tO)), o], S, []⟩) (g := onV (gN 4)) (halvesL pre.length) ⟨[slU (.int many), slU (.list ((halvesL pre.length).map tO)), slU (.int i), some (.ol []), c], S, []⟩ ⟨[], _, rfl, rfl⟩ (by
          rintro p r q st e2 ⟨acc, o, ha, rfl⟩
          have l1 : r.length = pre.length := (halves_mem _ r (by rw [e2]; simp)).1
          have l2 : acc.length = 3 * p.length := by rw [ha, flat3 split3 fun _ => rfl]
          have l3 := pre_le e2
          refine ⟨_, ⟨[slU (.int many), slU (.list ((halvesL pre.length).map tO)), slU (.int i), some (.ol ((acc ++ split3 r).map tO)), slU (tO r)], S, []⟩, rfl, .inl ?_, _, _, ?_, rfl⟩
          · simp [split3, eO, l1, l2, lineOk_of (show 1 ≤ 16777216 by omega), lineOk_of (show pre.length + 1 ≤ 16777216 by omega), lineOk_of (show 3 ≤ 16777216 by omega), lineOk_of (show 3 * p.length + 3 ≤ 16777216 by omega)]
          · rw [ha, List.flatMap_append]
            simp)
      have hr : halvesL (pre ++ [i]).length = acc := by rw [ha, List.length_append]; rfl
      refine ⟨⟨[slU (.int many), x1, slU (.int i), b, c], S, []⟩, ⟨[slU (.int many), slU (.list ((halvesL (pre ++ [i]).length).map tO)), slU (.int i), slU (.list (acc.map tO)), o], S, []⟩, by simp, .inl ?_, _, _, _, _, rfl, .inr rfl, fun _ => rfl⟩
      rw [hr]
      rw [seq_nx (st1 := ⟨[slU (.int many), x1, slU (.int i), some (.ol []), c], S, []⟩) (by simp [lineOk_of (show 0 ≤ 16777216 by omega)])]
      rw [seq_nx (st1 := ⟨[slU (.int many), slU (.list ((halvesL pre.length).map tO)), slU (.int i), some (.ol (acc.map tO)), o], S, []⟩) (by
        have ev : vals (nm 1) ⟨[slU (.int many), x1, slU (.int i), some (.ol []), c], S, []⟩ = some ((halvesL pre.length).map (fun r => Itm.v (.v (tO r))), ⟨[slU (.int many), slU (.list ((halvesL pre.length).map tO)), slU (.int i), some (.ol []), c], S, []⟩) := by
          rcases h2 with rfl | rfl <;> simp [Function.comp_def]
        rw [q_for, ev, Option.bind_some]
        exact e3)]
      simp)
  rw [List.length_range] at h2 h3
  have h3 := h3 h1
  subst h3
  have r1 : rg1 (nm 0) ⟨[slU (.int many), some (.ol [.tuple []]), none, none, none], S, []⟩ = some (rgN many, ⟨[slU (.int many), some (.ol [.tuple []]), none, none, none], S, []⟩) := q_rg1n (by simp) (by omega)
  have e : fLoop (onV (gN 2)) _ (rgN many) _ = _ := e
  unfold B_halves
  rw [seq_nx (st1 := ⟨[slU (.int many), some (.ol [.tuple []]), none, none, none], S, []⟩) (by simp [lineOk_of (show 0 ≤ 16777216 by omega), lineOk_of (show 1 ≤ 16777216 by omega)])]
  rw [seq_nx (by rw [q_for, r1, Option.bind_some]; exact e)]
  simp
theorem count_none (h : List (Option Int)) : ((h.map eO).countP fun z => PyData.eqv z .none) = h.countP (· == none) := by
  rw [List.countP_map]
  congr 1
  funext x
  cases x <;> rfl
theorem free_in (h : List (Option Int)) (S : List Cell) : F_free_in [.v (tO h)] S = some (.u (.v (.int (h.countP (· == none) : Nat))), S) := by
  refine run_ret [slU (tO h)] rfl ?_
  have kc : kCount (.t (h.map eO)) [.v .none] = some (.v (.int (h.countP (· == none) : Nat))) := by
    show (if (SeqAt.shaped (.tuple (h.map eO)) && SeqAt.shaped PyData.none) = true then some (U.v (.int ((h.map eO).countP fun z => PyData.eqv z .none : Nat))) else none) = _
    rw [shaped_tup (flat_eO h), count_none]
    rfl
  unfold B_free_in
  simp [kc]
theorem with_item {ds : List PyData} {p : Nat} {x : PyData} (hp : p < ds.length) (hl : ds.length ≤ 1000000) (S : List Cell) : F_with_item [.v (.tuple ds), .v (.int p), .v x] S = some (.u (.v (.tuple (ds.set p x))), S) := law_with hp hl S
def freeLe (a b : List (Option Int)) : Bool := decide (((a.countP (· == none) : Nat) : Int) ≤ ((b.countP (· == none) : Nat) : Int))
theorem free_sorted (n : Nat) : ((halvesL n).mergeSort freeLe).Perm (halvesL n) ∧ ((halvesL n).mergeSort freeLe).Pairwise fun a b => a.countP (· == none) ≤ b.countP (· == none) := by
  refine ⟨List.mergeSort_perm _ _, ?_⟩
  have := List.pairwise_mergeSort (le := freeLe) (fun a b c h1 h2 => by simp only [freeLe, decide_eq_true_eq] at *; omega) (fun a b => by simp only [freeLe, Bool.or_eq_true, decide_eq_true_eq]; omega) (halvesL n)
  exact this.imp fun h => by simpa [freeLe] using h
theorem count_set {h : List (Option Int)} {i : Nat} (b : Int) (hn : h[i]? = some none) : (h.set i (some b)).countP (· == none) < h.countP (· == none) := by
  induction h generalizing i with
  | nil => simp at hn
  | cons x h ih =>
    cases i with
    | zero =>
      simp at hn
      subst hn
      rw [List.set_cons_zero, List.countP_cons, List.countP_cons]
      simp
    | succ i =>
      rw [List.set_cons_succ, List.countP_cons, List.countP_cons]
      have := ih (i := i) (by simpa using hn)
      omega
/-- what is ahead of a half row, fewer free places first -/
theorem free_ahead {n : Nat} {ms pre post : List (List (Option Int))} {h : List (Option Int)} (pm : ms.Perm (halvesL n)) (ps : ms.Pairwise fun a b => a.countP (· == none) ≤ b.countP (· == none)) (e : ms = pre ++ h :: post) {i : Nat} (hn : h[i]? = some none) {b : Int} (hb : b = 0 ∨ b = 1) : h.set i (some b) ∈ pre := by
  have hm : h ∈ halvesL n := pm.mem_iff.mp (by rw [e]; simp)
  obtain ⟨hl, hh⟩ := halves_mem n h hm
  have m2 : h.set i (some b) ∈ ms := pm.mem_iff.mpr (halves_all n _ (by rw [List.length_set, hl]) (half_set hh hb i))
  have lt := count_set b hn
  rw [e] at m2 ps
  rcases List.mem_append.mp m2 with q | q
  · exact q
  · rcases List.mem_cons.mp q with q | q
    · rw [q] at lt
      omega
    · have := (List.pairwise_cons.mp (List.pairwise_append.mp ps).2.1).1 _ q
      omega
section
variable {t : List Int} {S : List Cell} {kvs : List (PyData × U)} {h : List (Option Int)} {o2 o3 o4 o5 : Option O} {n : Nat}
theorem sv_none (hm : none ∈ h) (hl : h.length ≤ 1000) (tk : tupKeys kvs = true) (hk : kvs.length < 16777216) {x0 x1 : Option Int}
    (g0 : dget kvs (tO (h.set (h.findIdx (· == none)) (some 0))) = some (.v (eO x0))) (g1 : dget kvs (tO (h.set (h.findIdx (· == none)) (some 1))) = some (.v (eO x1))) :
    ∃ a b c, (seq (sSet 3 (up (mth kIndex (rN 2) (aCons (kst .none) (aNil))))) (seq (sPar 4 5 (hCons (up (idx (rN 1) (fz (cal 3 F_with_item (aCons (nm 2) (aCons (nm 3) (aCons (kst (.int 0)) (aNil)))))))) (hCons (up (idx (rN 1) (fz (cal 3 F_with_item (aCons (nm 2) (aCons (nm 3) (aCons (kst (.int 1)) (aNil)))))))) (hNil)))) (sAsg (ifU (tst (eqR false (rN 4) (rN 5))) (nm 4) (kst .none)) (gS (rN 1) (nm 2))))) (stU t kvs (slU (tO h)) o3 o4 o5 S) = some (.nx, stU t (dput kvs (tO h) (.v (eO (if x0 = x1 then x0 else none)))) (slU (tO h)) a b c S) := by
  have hi : h.findIdx (· == none) < h.length := List.findIdx_lt_length_of_exists ⟨none, hm, rfl⟩
  have fi := find_none h
  have an := any_none h
  have st := shaped_tup (flat_eO h)
  have cn : h.contains none = true := by simp [hm]
  have w0 := with_item (ds := h.map eO) (p := h.findIdx (· == none)) (x := .int 0) (by rw [List.length_map]; exact hi) (by rw [List.length_map]; omega) S
  have w1 := with_item (ds := h.map eO) (p := h.findIdx (· == none)) (x := .int 1) (by rw [List.length_map]; exact hi) (by rw [List.length_map]; omega) S
  rw [show (h.map eO).set (h.findIdx (· == none)) (.int 0) = (h.set (h.findIdx (· == none)) (some 0)).map eO by rw [List.map_set]; rfl] at w0
  rw [show (h.map eO).set (h.findIdx (· == none)) (.int 1) = (h.set (h.findIdx (· == none)) (some 1)).map eO by rw [List.map_set]; rfl] at w1
  have k0 := tupO_ok tk (h.set (h.findIdx (· == none)) (some 0))
  have k1 := tupO_ok tk (h.set (h.findIdx (· == none)) (some 1))
  have k2 := tupO_ok tk h
  change F_with_item _ _ = some (.u (.v (tO _)), S) at w0
  change F_with_item _ _ = some (.u (.v (tO _)), S) at w1
  generalize tO (h.set (h.findIdx (· == none)) (some 0)) = d0 at *
  generalize tO (h.set (h.findIdx (· == none)) (some 1)) = d1 at *
  generalize h.findIdx (· == none) = p at *
  rw [cn] at an
  have ev := eqv_eO x0 x1
  have s0 := shaped_eO x0
  have s1 := shaped_eO x1
  have dec : (if x0 = x1 then eO x0 else PyData.none) = eO (if x0 = x1 then x0 else none) := by split <;> rfl
  rw [← dec]
  change F_with_item [.v (tO h), _, _] _ = _ at w0
  change F_with_item [.v (tO h), _, _] _ = _ at w1
  have ki : kIndex (.t (h.map eO)) [.v .none] = some (.v (.int (p : Nat))) := by
    show (if (SeqAt.shaped (.tuple (h.map eO)) && SeqAt.shaped PyData.none && (h.map eO).any fun z => PyData.eqv z .none) = true then some (U.v (.int (((h.map eO).findIdx fun z => PyData.eqv z .none : Nat) : Int))) else none) = _
    rw [st, an, fi]
    rfl
  refine ⟨slU (.int (p : Nat)), slU (eO x0), slU (eO x1), ?_⟩
  rw [seq_nx (st1 := stU t kvs (slU (tO h)) (slU (.int (p : Nat))) o4 o5 S) (by simp [ki])]
  generalize tO h = dh at *
  rw [seq_nx (st1 := stU t kvs (slU dh) (slU (.int (p : Nat))) (slU (eO x0)) (slU (eO x1)) S) (by simp [w0, w1, k0, k1, g0, g1])]
  by_cases hx : x0 = x1
  · subst hx
    have ev' : PyData.eqv (eO x0) (eO x0) = true := by rw [ev]; simp
    simp [s0, ev', k2, hk]
  · have ev' : PyData.eqv (eO x0) (eO x1) = false := by rw [ev]; simp [hx]
    simp [s0, s1, ev', k2, hk, hx]
theorem sv_full {r : List Int} (ht : t.length = 2 ^ n) (hr : r.length = n) (hb : Bits r) (tk : tupKeys kvs = true) (hk : kvs.length < 16777216) : (sAsg (fz (cal 2 F_value_at (aCons (nm 0) (aCons (nm 2) (aNil))))) (gS (rN 1) (nm 2))) (stU t kvs (slU (tO (r.map some))) o3 o4 o5 S) = some (.nx, stU t (dput kvs (tO (r.map some)) (.v (eO (some (t.getD (num r).toNat 0))))) (slU (tO (r.map some))) o3 o4 o5 S) := by
  have e : tO (r.map some) = tI r := by
    unfold tO tI
    rw [List.map_map]
    rfl
  have k2 := tupO_ok tk (r.map some)
  have en := value_at ht hr hb S
  rw [e] at k2 ⊢
  generalize tI r = dr at *
  generalize t.getD (num r).toNat 0 = w at *
  simp [en, k2, hk, eO]
theorem notin_test (b : Bool) (an : ((h.map eO).any fun z => PyData.eqv z .none) = b) : tst (isIn true (kst .none) (rN 2)) (stU t kvs (slU (tO h)) o3 o4 o5 S) = some (!b, stU t kvs (slU (tO h)) o3 o4 o5 S) := by
  have gi : gIn true (stU t kvs (slU (tO h)) o3 o4 o5 S) (.v .none) (.sl 2) = some (.v (.bool (!b))) := by
    show (if (SeqAt.shaped PyData.none && SeqAt.shaped (.tuple (h.map eO))) = true then some (U.v (.bool (if true = true then (!(h.map eO).any fun z => PyData.eqv z .none) else ((h.map eO).any fun z => PyData.eqv z .none)))) else none) = _
    rw [shaped_tup (flat_eO h), an]
    rfl
  simp only [q_tst, q_isIn, q_kst, Option.bind_some, q_rN]
  show (Option.map _ (gIn true (stU t kvs (slU (tO h)) o3 o4 o5 S) (.v .none) (.sl 2))).bind _ = _
  rw [gi]
  rfl
theorem sv_turn (ht : t.length = 2 ^ n) (hn : n ≤ 9) {ms pre post : List (List (Option Int))} (pm : ms.Perm (halvesL n)) (ps : ms.Pairwise fun a b => a.countP (· == none) ≤ b.countP (· == none)) (e : ms = pre ++ h :: post) (tk : tupKeys kvs = true) (hk : kvs.length < 16777216)
    (all : ∀ g ∈ pre, dget kvs (tO g) = some (.v (eO (sureO t g)))) :
    ∃ a b c, (sIf (tst (isIn true (kst .none) (rN 2))) (sAsg (fz (cal 2 F_value_at (aCons (nm 0) (aCons (nm 2) (aNil))))) (gS (rN 1) (nm 2))) (seq (sSet 3 (up (mth kIndex (rN 2) (aCons (kst .none) (aNil))))) (seq (sPar 4 5 (hCons (up (idx (rN 1) (fz (cal 3 F_with_item (aCons (nm 2) (aCons (nm 3) (aCons (kst (.int 0)) (aNil)))))))) (hCons (up (idx (rN 1) (fz (cal 3 F_with_item (aCons (nm 2) (aCons (nm 3) (aCons (kst (.int 1)) (aNil)))))))) (hNil)))) (sAsg (ifU (tst (eqR false (rN 4) (rN 5))) (nm 4) (kst .none)) (gS (rN 1) (nm 2)))))) (stU t kvs (slU (tO h)) o3 o4 o5 S) = some (.nx, stU t (dput kvs (tO h) (.v (eO (sureO t h)))) (slU (tO h)) a b c S) := by
  have hmem : h ∈ halvesL n := pm.mem_iff.mp (by rw [e]; simp)
  obtain ⟨hl, hh⟩ := halves_mem n h hmem
  have an := any_none h
  by_cases hm : none ∈ h
  · have cn : h.contains none = true := by simp [hm]
    rw [cn] at an
    have hi : h.findIdx (· == none) < h.length := List.findIdx_lt_length_of_exists ⟨none, hm, rfl⟩
    have h0 : h[h.findIdx (· == none)]? = some none := by
      rw [List.getElem?_eq_getElem hi]
      have := List.findIdx_getElem (p := (· == none)) (xs := h) (w := hi)
      exact congrArg some (by simpa using this)
    rw [sure_step hh hi h0]
    rw [if_no (st1 := stU t kvs (slU (tO h)) o3 o4 o5 S) (notin_test true an)]
    exact sv_none hm (by omega) tk hk (all _ (free_ahead pm ps e h0 (.inl rfl))) (all _ (free_ahead pm ps e h0 (.inr rfl)))
  · have cn : h.contains none = false := by simp [hm]
    rw [cn] at an
    rw [if_yes (st1 := stU t kvs (slU (tO h)) o3 o4 o5 S) (notin_test false an)]
    have fb := fill0_fills hh
    have eh := full_map hm
    generalize fill0 h = r at *
    subst eh
    rw [sure_full fb.2.1]
    exact ⟨_, _, _, sv_full ht (by rw [← hl, List.length_map]) fb.2.1 tk hk⟩
/-- what is sure of a table, in some order -/
structure SureE (t : List Int) (n : Nat) (kvs : List (PyData × U)) : Prop where
  tup : tupKeys kvs = true
  get : ∀ h ∈ halvesL n, dget kvs (tO h) = some (.v (eO (sureO t h)))
theorem SureD.e {t : List Int} {n : Nat} {kvs : List (PyData × U)} (D : SureD t n kvs) : SureE t n kvs := ⟨D.tup, D.get⟩
theorem sure_values (ht : t.length = 2 ^ n) (h1 : 1 ≤ n) (hn : n ≤ 9) (S : List Cell) : ∃ kvs, F_sure_values [.v (tI t)] S = some (.od kvs, S) ∧ SureE t n kvs := by
  have ep := places_of (ds := t.map .int) (m := n) (by rw [List.length_map, ht]) h1 (by omega) S
  have eh := halves h1 hn S
  have few := halves_le (n := n) (by omega)
  obtain ⟨pm, ps⟩ := free_sorted n
  have srt : srtBy F_free_in ((rU (fz (cal 1 F_halves (aCons (fz (cal 1 F_places_of (aCons (nm 0) (aNil)))) (aNil)))))) (stU t [] none none none none S) = some (.ol (((halvesL n).mergeSort freeLe).map tO), stU t [] none none none none S) :=
    srtBy_l (st1 := stU t [] none none none none S) (hn := .u (.v (.list ((halvesL n).map tO)))) (enc := tO) (key := fun h => .int (h.countP (· == none) : Nat)) (xs := halvesL n) (by simp [ep, eh]) rfl (fun h hh => free_in h S) (fun h hh => rfl) (by
      have := alike_ints ((halvesL n).map fun h => ((h.countP (· == none) : Nat) : Int))
      rwa [List.map_map] at this) (fun a ha b hb => int_le _ _)
  generalize (halvesL n).mergeSort freeLe = ms at pm ps srt
  have lm := pm.length_eq
  obtain ⟨st', e, kvs, o2, o3, o4, o5, rfl, tk, lk, all⟩ := loopI (α := List (Option Int)) (b := (sIf (tst (isIn true (kst .none) (rN 2))) (sAsg (fz (cal 2 F_value_at (aCons (nm 0) (aCons (nm 2) (aNil))))) (gS (rN 1) (nm 2))) (seq (sSet 3 (up (mth kIndex (rN 2) (aCons (kst .none) (aNil))))) (seq (sPar 4 5 (hCons (up (idx (rN 1) (fz (cal 3 F_with_item (aCons (nm 2) (aCons (nm 3) (aCons (kst (.int 0)) (aNil)))))))) (hCons (up (idx (rN 1) (fz (cal 3 F_with_item (aCons (nm 2) (aCons (nm 3) (aCons (kst (.int 1)) (aNil)))))))) (hNil)))) (sAsg (ifU (tst (eqR false (rN 4) (rN 5))) (nm 4) (kst .none)) (gS (rN 1) (nm 2))))))) (fun h => .v (.v (tO h))) (fun pre st => ∃ kvs o2 o3 o4 o5, st = stU t kvs o2 o3 o4 o5 S ∧ tupKeys kvs = true ∧ kvs.length ≤ pre.length ∧ ∀ h ∈ pre, dget kvs (tO h) = some (.v (eO (sureO t h)))) (g := onV (gN 2)) ms (stU t [] none none none none S) ⟨[], none, none, none, none, rfl, rfl, Nat.le_refl _, fun _ z => nomatch z⟩ (by
    rintro pre h post st e ⟨kvs, o2, o3, o4, o5, rfl, tk, lk, all⟩
    have lp := pre_le e
    obtain ⟨a, b, c, et⟩ := sv_turn (S := S) (o3 := o3) (o4 := o4) (o5 := o5) ht hn pm ps e tk (by omega) all
    refine ⟨_, _, rfl, .inl et, _, _, _, _, _, rfl, dput_tups tk rfl, ?_, fun g hg => ?_⟩
    · have := dput_len (kvs := kvs) (k := tO h) (v := .v (eO (sureO t h)))
      rw [List.length_append, List.length_singleton]
      omega
    · rw [dget_dput]
      rcases List.mem_append.mp hg with q | q
      · split
        · next z => rw [← kf_tO_inj z]
        · exact all g q
      · rw [List.mem_singleton.mp q, if_pos rfl])
  refine ⟨kvs, run_ret [slU (tI t), none, none, none, none, none] rfl ?_, tk, fun h hh => all h (pm.mem_iff.mpr hh)⟩
  have e : fLoop (onV (gN 2)) _ (ms.map fun h => Itm.v (.v (tO h))) _ = _ := e
  unfold B_sure_values
  rw [seq_nx (st1 := stU t [] none none none none S) (by simp)]
  generalize hk : srtBy F_free_in ((rU (fz (cal 1 F_halves (aCons (fz (cal 1 F_places_of (aCons (nm 0) (aNil)))) (aNil)))))) = kx at srt ⊢
  have ev : vals (fz kx) (stU t [] none none none none S) = some (ms.map fun h => Itm.v (.v (tO h)), stU t [] none none none none S) := by
    rw [q_vals, q_fz, srt]
    simp [Function.comp_def]
  rw [seq_nx (by rw [q_for, ev, Option.bind_some]; exact e)]
  simp
end
end Sp

namespace Sp
open PySem L2 MP Sh

/-! ## primes -/
def wider (h : List (Option Int)) : List (List (Option Int)) := (h.zipIdx.filter fun p => p.1.isSome).map fun p => h.set p.2 none
noncomputable def isPrime (t : List Int) (bit : Int) (h : List (Option Int)) : Bool := (sureO t h == some bit) && !((wider h).any fun g => sureO t g == some bit)
noncomputable def primesL (t : List Int) (bit : Int) (n : Nat) : List (List (Option Int)) := (halvesL n).filter (isPrime t bit)
section
variable {t : List Int} {S : List Cell} {h : List (Option Int)} {o0 o1 o3 o5 o8 : Option O} {n : Nat}

theorem pr_wider {o2 : O} (hl : h.length ≤ 1000) (hd : List O) : lc (enum (nm 4)) (onT 2 (gCo (gN 6) (gCo (gN 7) (gNo)))) (tst (bin gIsNot (nm 7) (kst .none))) (fz (cal 3 F_with_item (aCons (nm 4) (aCons (nm 6) (aCons (kst .none) (aNil)))))) [6, 7] ⟨[o0, o1, some o2, o3, slU (tO h), o5, none, none, o8], S, hd⟩ = some (.ol ((wider h).map tO), ⟨[o0, o1, some o2, o3, slU (tO h), o5, none, none, o8], S, hd⟩) := by
  have e := lcP (i := 6) (j := 7) (st := ⟨[o0, o1, some o2, o3, slU (tO h), o5, none, none, o8], S, hd⟩) (r0 := [o0, o1, some o2, o3, slU (tO h), o5, none, none, o8]) (S := S) (h := hd) (f := enum (nm 4)) (t := tst (bin gIsNot (nm 7) (kst .none))) (e := fz (cal 3 F_with_item (aCons (nm 4) (aCons (nm 6) (aCons (kst .none) (aNil)))))) (fun p : Option Int × Nat => .int (p.2 : Nat)) (fun p => eO p.1) (fun p => tO (h.set p.2 none)) (fun p => p.1.isSome) h.zipIdx (by
    simp [enI_map]) (by simp) (by simp) (by decide) (fun p hp hd => by
      obtain ⟨x, i⟩ := p
      cases x <;> simp [eO, gIsNot]) (fun p hp _ hd => by
      obtain ⟨x, i⟩ := p
      have hi : i < h.length := by
        have := List.mem_zipIdx_iff_getElem?.mp hp
        rcases Nat.lt_or_ge i h.length with q | q
        · exact q
        · rw [List.getElem?_eq_none q] at this; cases this
      have w := with_item (ds := h.map eO) (p := i) (x := .none) (by rw [List.length_map]; exact hi) (by rw [List.length_map]; omega) S
      rw [show (h.map eO).set i .none = (h.set i none).map eO by rw [List.map_set]; rfl] at w
      change F_with_item [.v (tO h), _, _] _ = some (.u (.v (tO (h.set i none))), S) at w
      generalize tO h = dh at *
      generalize tO (h.set i none) = dg at *
      simp [w]) (by rw [List.length_zipIdx]; omega)
  rw [e]
  have : (h.zipIdx.filter fun p => p.1.isSome).map (fun p => tO (h.set p.2 none)) = (wider h).map tO := by
    unfold wider
    rw [List.map_map]
    rfl
  rw [this]
  simp [keepU]
theorem pr_turn {o2 : O} {kvs : List (PyData × U)} {bit : Int} (hmem : h ∈ halvesL n) (hn : n ≤ 9) (D : SureE t n kvs) (h2 : sqO S o2 = some (.d kvs)) {acc : List (List (Option Int))} (ha : acc.length ≤ 1000000) (h5 : o5 = none ∨ ∃ xs, o5 = some (.ol xs) ∨ o5 = slU (.list xs)) (h8 : o8 = none) :
    ∃ o5', (sIf (tst (eqR false (rU (idx (rN 2) (nm 4))) (rN 1))) (seq (sSet 5 (lc (enum (nm 4)) (onT 2 (gCo (gN 6) (gCo (gN 7) (gNo)))) (tst (bin gIsNot (nm 7) (kst .none))) (fz (cal 3 F_with_item (aCons (nm 4) (aCons (nm 6) (aCons (kst .none) (aNil)))))) [6, 7])) (sIf (notT (tru (fz (b1 kAny (rU (fz (lc (vals (nm 5)) (onV (gN 8)) (yes) (eqR false (rU (idx (rN 2) (nm 8))) (rN 1)) [8]))))))) (sDo (up (lmt kAppend (rN 3) (aCons (nm 4) (aNil))))) (sNil))) (sNil)) ⟨[o0, slU (.int bit), some o2, some (.ol (acc.map tO)), slU (tO h), o5, none, none, o8], S, []⟩ = some (.nx, ⟨[o0, slU (.int bit), some o2, some (.ol ((if isPrime t bit h then acc ++ [h] else acc).map tO)), slU (tO h), o5', none, none, none], S, []⟩) ∧ (o5' = none ∨ ∃ xs, o5' = some (.ol xs) ∨ o5' = slU (.list xs)) := by
  subst h8
  obtain ⟨hl, hh⟩ := halves_mem n h hmem
  have sq : ∀ (r : List (Option O)) (hd : List O), r[2]? = some (some o2) → look ⟨r, S, hd⟩ (.sl 2) = some (.d kvs) := fun r hd e => by
    show (match r[2]? with
      | some (some o) => sqO S o
      | _ => none) = _
    rw [e]
    exact h2
  have ixd : ∀ (g : List (Option Int)) (hg : g ∈ halvesL n) (r : List (Option O)) (hd : List O), r[2]? = some (some o2) → gIx ⟨r, S, hd⟩ (.sl 2) (.v (tO g)) = some (.v (eO (sureO t g))) := fun g hg r hd e => by
    have ok := tupO_ok D.tup g
    have dg := D.get g hg
    rw [q_gIx, sq r hd e]
    show (if kOk kvs (tO g) = true then dget kvs (tO g) else none) = _
    rw [if_pos ok, dg]
  have eqb : ∀ g : List (Option Int), PyData.eqv (eO (sureO t g)) (.int bit) = (sureO t g == some bit) := fun g => eqv_eO (sureO t g) (some bit)
  have i4 := ixd h hmem [o0, slU (.int bit), some o2, some (.ol (acc.map tO)), slU (tO h), o5, none, none, none] [] rfl
  have test : tst (eqR false (rU (idx (rN 2) (nm 4))) (rN 1)) ⟨[o0, slU (.int bit), some o2, some (.ol (acc.map tO)), slU (tO h), o5, none, none, none], S, []⟩ = some (sureO t h == some bit, ⟨[o0, slU (.int bit), some o2, some (.ol (acc.map tO)), slU (tO h), o5, none, none, none], S, []⟩) := by
    have e4 := eqb h
    have s4 := shaped_eO (sureO t h)
    generalize eO (sureO t h) = x at *
    simp only [q_tst, q_eqR, q_rU, q_idx, q_rN, q_nm, List.getElem?_cons_succ, List.getElem?_cons_zero, Option.bind_some, Option.map_some, i4, q_datV, q_datS, s4, shaped_int, Bool.and_self, if_true, e4, q_boolOf]
    simp
  by_cases c : sureO t h = some bit
  · have c' : (sureO t h == some bit) = true := by rw [c]; simp
    rw [c'] at test
    rw [if_yes test]
    have ew := pr_wider (o0 := o0) (o1 := slU (.int bit)) (o3 := some (.ol (acc.map tO))) (o5 := o5) (o8 := none) (S := S) (o2 := o2) (h := h) (by omega) []
    have lw : (wider h).length ≤ 1000 := by
      unfold wider
      rw [List.length_map]
      have := List.length_filter_le (fun p : Option Int × Nat => p.1.isSome) h.zipIdx
      rw [List.length_zipIdx] at this
      omega
    have wm : ∀ g ∈ wider h, g ∈ halvesL n := fun g hg => by
      unfold wider at hg
      obtain ⟨p, hp, rfl⟩ := List.mem_map.mp hg
      refine halves_all n _ (by rw [List.length_set, hl]) fun x hx => ?_
      rcases List.mem_or_eq_of_mem_set hx with q | q
      · exact hh x q
      · exact .inl q
    rw [seq_nx (st1 := ⟨[o0, slU (.int bit), some o2, some (.ol (acc.map tO)), slU (tO h), some (.ol ((wider h).map tO)), none, none, none], S, []⟩) (by rw [q_set, ew]; simp)]
    have ea := lcV1 (i := 8) (st := ⟨[o0, slU (.int bit), some o2, some (.ol (acc.map tO)), slU (tO h), some (.ol ((wider h).map tO)), none, none, none], S, []⟩) (r0 := [o0, slU (.int bit), some o2, some (.ol (acc.map tO)), slU (tO h), slU (.list ((wider h).map tO)), none, none, none]) (S := S) (h := []) (f := vals (nm 5)) (e := eqR false (rU (idx (rN 2) (nm 8))) (rN 1)) tO (fun g => .bool (sureO t g == some bit)) (wider h) (by simp [Function.comp_def]) (by simp) (fun g hg hd => by
      have i8 := ixd g (wm g hg) ([o0, slU (.int bit), some o2, some (.ol (acc.map tO)), slU (tO h), slU (.list ((wider h).map tO)), none, none, none].set 8 (slU (tO g))) hd rfl
      have e4 := eqb g
      have s4 := shaped_eO (sureO t g)
      generalize eO (sureO t g) = x at *
      simp only [List.set_cons_succ, List.set_cons_zero] at i8
      simp only [List.set_cons_succ, List.set_cons_zero, q_eqR, q_rU, q_idx, q_rN, q_nm, List.getElem?_cons_succ, List.getElem?_cons_zero, Option.bind_some, Option.map_some, i8, q_datV, q_datS, s4, shaped_int, Bool.and_self, if_true, e4]
      simp) (by omega)
    have qa := q_any (r := rU (fz (lc (vals (nm 5)) (onV (gN 8)) (yes) (eqR false (rU (idx (rN 2) (nm 8))) (rN 1)) [8]))) (st := ⟨[o0, slU (.int bit), some o2, some (.ol (acc.map tO)), slU (tO h), some (.ol ((wider h).map tO)), none, none, none], S, []⟩) (bs := (wider h).map fun g => sureO t g == some bit) (by
      rw [q_rU, q_fz, ea]
      rfl) (by rw [List.map_map]; rfl)
    rw [List.any_map] at qa
    refine ⟨slU (.list ((wider h).map tO)), ?_, .inr ⟨_, .inr rfl⟩⟩
    generalize hk : b1 kAny (rU (fz (lc (vals (nm 5)) (onV (gN 8)) (yes) (eqR false (rU (idx (rN 2) (nm 8))) (rN 1)) [8]))) = kx at qa ⊢
    have ip : isPrime t bit h = !((wider h).any fun g => sureO t g == some bit) := by
      unfold isPrime
      rw [c']
      rfl
    rw [ip]
    have qa' : kx ⟨[o0, slU (.int bit), some o2, some (.ol (acc.map tO)), slU (tO h), some (.ol ((wider h).map tO)), none, none, none], S, []⟩ = some (.u (.v (.bool ((wider h).any fun g => sureO t g == some bit))), ⟨[o0, slU (.int bit), some o2, some (.ol (acc.map tO)), slU (tO h), slU (.list ((wider h).map tO)), none, none, none], S, []⟩) := by
      rw [qa]
      simp [keepU, Function.comp_def]
    cases hb : (wider h).any fun g => sureO t g == some bit with
    | true =>
      rw [hb] at qa'
      rw [if_no (st1 := ⟨[o0, slU (.int bit), some o2, some (.ol (acc.map tO)), slU (tO h), slU (.list ((wider h).map tO)), none, none, none], S, []⟩) (by simp [qa'])]
      simp
    | false =>
      rw [hb] at qa'
      rw [if_yes (st1 := ⟨[o0, slU (.int bit), some o2, some (.ol (acc.map tO)), slU (tO h), slU (.list ((wider h).map tO)), none, none, none], S, []⟩) (by simp [qa'])]
      simp [lineOk_of (show acc.length + 1 ≤ 16777216 by omega)]
  · have c' : (sureO t h == some bit) = false := by simp [c]
    rw [c'] at test
    have ip : isPrime t bit h = false := by
      unfold isPrime
      rw [c']
      rfl
    refine ⟨o5, ?_, h5⟩
    rw [if_no test, ip]
    simp

theorem lp_wider {o2 : O} (hl : h.length ≤ 1000) (hd : List O) : lc (enum (nm 4)) (onT 2 (gCo (gN 6) (gCo (gN 7) (gNo)))) (tst (bin gIsNot (nm 7) (kst .none))) (fz (cal 3 F__law_with (aCons (nm 4) (aCons (nm 6) (aCons (kst .none) (aNil)))))) [6, 7] ⟨[o0, o1, some o2, o3, slU (tO h), o5, none, none, o8], S, hd⟩ = some (.ol ((wider h).map tO), ⟨[o0, o1, some o2, o3, slU (tO h), o5, none, none, o8], S, hd⟩) := by
  have e := lcP (i := 6) (j := 7) (st := ⟨[o0, o1, some o2, o3, slU (tO h), o5, none, none, o8], S, hd⟩) (r0 := [o0, o1, some o2, o3, slU (tO h), o5, none, none, o8]) (S := S) (h := hd) (f := enum (nm 4)) (t := tst (bin gIsNot (nm 7) (kst .none))) (e := fz (cal 3 F__law_with (aCons (nm 4) (aCons (nm 6) (aCons (kst .none) (aNil)))))) (fun p : Option Int × Nat => .int (p.2 : Nat)) (fun p => eO p.1) (fun p => tO (h.set p.2 none)) (fun p => p.1.isSome) h.zipIdx (by
    simp [enI_map]) (by simp) (by simp) (by decide) (fun p hp hd => by
      obtain ⟨x, i⟩ := p
      cases x <;> simp [eO, gIsNot]) (fun p hp _ hd => by
      obtain ⟨x, i⟩ := p
      have hi : i < h.length := by
        have := List.mem_zipIdx_iff_getElem?.mp hp
        rcases Nat.lt_or_ge i h.length with q | q
        · exact q
        · rw [List.getElem?_eq_none q] at this; cases this
      have w := law_with (ds := h.map eO) (p := i) (x := .none) (by rw [List.length_map]; exact hi) (by rw [List.length_map]; omega) S
      rw [show (h.map eO).set i .none = (h.set i none).map eO by rw [List.map_set]; rfl] at w
      change F__law_with [.v (tO h), _, _] _ = some (.u (.v (tO (h.set i none))), S) at w
      generalize tO h = dh at *
      generalize tO (h.set i none) = dg at *
      simp [w]) (by rw [List.length_zipIdx]; omega)
  rw [e]
  have : (h.zipIdx.filter fun p => p.1.isSome).map (fun p => tO (h.set p.2 none)) = (wider h).map tO := by
    unfold wider
    rw [List.map_map]
    rfl
  rw [this]
  simp [keepU]
theorem lp_turn {o2 : O} {kvs : List (PyData × U)} {bit : Int} (hmem : h ∈ halvesL n) (hn : n ≤ 9) (D : SureE t n kvs) (h2 : sqO S o2 = some (.d kvs)) {acc : List (List (Option Int))} (ha : acc.length ≤ 1000000) (h5 : o5 = none ∨ ∃ xs, o5 = some (.ol xs) ∨ o5 = slU (.list xs)) (h8 : o8 = none) :
    ∃ o5', (sIf (tst (eqR false (rU (idx (rN 2) (nm 4))) (rN 1))) (seq (sSet 5 (lc (enum (nm 4)) (onT 2 (gCo (gN 6) (gCo (gN 7) (gNo)))) (tst (bin gIsNot (nm 7) (kst .none))) (fz (cal 3 F__law_with (aCons (nm 4) (aCons (nm 6) (aCons (kst .none) (aNil)))))) [6, 7])) (sIf (notT (tru (fz (b1 kAny (rU (fz (lc (vals (nm 5)) (onV (gN 8)) (yes) (eqR false (rU (idx (rN 2) (nm 8))) (rN 1)) [8]))))))) (sDo (up (lmt kAppend (rN 3) (aCons (nm 4) (aNil))))) (sNil))) (sNil)) ⟨[o0, slU (.int bit), some o2, some (.ol (acc.map tO)), slU (tO h), o5, none, none, o8], S, []⟩ = some (.nx, ⟨[o0, slU (.int bit), some o2, some (.ol ((if isPrime t bit h then acc ++ [h] else acc).map tO)), slU (tO h), o5', none, none, none], S, []⟩) ∧ (o5' = none ∨ ∃ xs, o5' = some (.ol xs) ∨ o5' = slU (.list xs)) := by
  subst h8
  obtain ⟨hl, hh⟩ := halves_mem n h hmem
  have sq : ∀ (r : List (Option O)) (hd : List O), r[2]? = some (some o2) → look ⟨r, S, hd⟩ (.sl 2) = some (.d kvs) := fun r hd e => by
    show (match r[2]? with
      | some (some o) => sqO S o
      | _ => none) = _
    rw [e]
    exact h2
  have ixd : ∀ (g : List (Option Int)) (hg : g ∈ halvesL n) (r : List (Option O)) (hd : List O), r[2]? = some (some o2) → gIx ⟨r, S, hd⟩ (.sl 2) (.v (tO g)) = some (.v (eO (sureO t g))) := fun g hg r hd e => by
    have ok := tupO_ok D.tup g
    have dg := D.get g hg
    rw [q_gIx, sq r hd e]
    show (if kOk kvs (tO g) = true then dget kvs (tO g) else none) = _
    rw [if_pos ok, dg]
  have eqb : ∀ g : List (Option Int), PyData.eqv (eO (sureO t g)) (.int bit) = (sureO t g == some bit) := fun g => eqv_eO (sureO t g) (some bit)
  have i4 := ixd h hmem [o0, slU (.int bit), some o2, some (.ol (acc.map tO)), slU (tO h), o5, none, none, none] [] rfl
  have test : tst (eqR false (rU (idx (rN 2) (nm 4))) (rN 1)) ⟨[o0, slU (.int bit), some o2, some (.ol (acc.map tO)), slU (tO h), o5, none, none, none], S, []⟩ = some (sureO t h == some bit, ⟨[o0, slU (.int bit), some o2, some (.ol (acc.map tO)), slU (tO h), o5, none, none, none], S, []⟩) := by
    have e4 := eqb h
    have s4 := shaped_eO (sureO t h)
    generalize eO (sureO t h) = x at *
    simp only [q_tst, q_eqR, q_rU, q_idx, q_rN, q_nm, List.getElem?_cons_succ, List.getElem?_cons_zero, Option.bind_some, Option.map_some, i4, q_datV, q_datS, s4, shaped_int, Bool.and_self, if_true, e4, q_boolOf]
    simp
  by_cases c : sureO t h = some bit
  · have c' : (sureO t h == some bit) = true := by rw [c]; simp
    rw [c'] at test
    rw [if_yes test]
    have ew := lp_wider (o0 := o0) (o1 := slU (.int bit)) (o3 := some (.ol (acc.map tO))) (o5 := o5) (o8 := none) (S := S) (o2 := o2) (h := h) (by omega) []
    have lw : (wider h).length ≤ 1000 := by
      unfold wider
      rw [List.length_map]
      have := List.length_filter_le (fun p : Option Int × Nat => p.1.isSome) h.zipIdx
      rw [List.length_zipIdx] at this
      omega
    have wm : ∀ g ∈ wider h, g ∈ halvesL n := fun g hg => by
      unfold wider at hg
      obtain ⟨p, hp, rfl⟩ := List.mem_map.mp hg
      refine halves_all n _ (by rw [List.length_set, hl]) fun x hx => ?_
      rcases List.mem_or_eq_of_mem_set hx with q | q
      · exact hh x q
      · exact .inl q
    rw [seq_nx (st1 := ⟨[o0, slU (.int bit), some o2, some (.ol (acc.map tO)), slU (tO h), some (.ol ((wider h).map tO)), none, none, none], S, []⟩) (by rw [q_set, ew]; simp)]
    have ea := lcV1 (i := 8) (st := ⟨[o0, slU (.int bit), some o2, some (.ol (acc.map tO)), slU (tO h), some (.ol ((wider h).map tO)), none, none, none], S, []⟩) (r0 := [o0, slU (.int bit), some o2, some (.ol (acc.map tO)), slU (tO h), slU (.list ((wider h).map tO)), none, none, none]) (S := S) (h := []) (f := vals (nm 5)) (e := eqR false (rU (idx (rN 2) (nm 8))) (rN 1)) tO (fun g => .bool (sureO t g == some bit)) (wider h) (by simp [Function.comp_def]) (by simp) (fun g hg hd => by
      have i8 := ixd g (wm g hg) ([o0, slU (.int bit), some o2, some (.ol (acc.map tO)), slU (tO h), slU (.list ((wider h).map tO)), none, none, none].set 8 (slU (tO g))) hd rfl
      have e4 := eqb g
      have s4 := shaped_eO (sureO t g)
      generalize eO (sureO t g) = x at *
      simp only [List.set_cons_succ, List.set_cons_zero] at i8
      simp only [List.set_cons_succ, List.set_cons_zero, q_eqR, q_rU, q_idx, q_rN, q_nm, List.getElem?_cons_succ, List.getElem?_cons_zero, Option.bind_some, Option.map_some, i8, q_datV, q_datS, s4, shaped_int, Bool.and_self, if_true, e4]
      simp) (by omega)
    have qa := q_any (r := rU (fz (lc (vals (nm 5)) (onV (gN 8)) (yes) (eqR false (rU (idx (rN 2) (nm 8))) (rN 1)) [8]))) (st := ⟨[o0, slU (.int bit), some o2, some (.ol (acc.map tO)), slU (tO h), some (.ol ((wider h).map tO)), none, none, none], S, []⟩) (bs := (wider h).map fun g => sureO t g == some bit) (by
      rw [q_rU, q_fz, ea]
      rfl) (by rw [List.map_map]; rfl)
    rw [List.any_map] at qa
    refine ⟨slU (.list ((wider h).map tO)), ?_, .inr ⟨_, .inr rfl⟩⟩
    generalize hk : b1 kAny (rU (fz (lc (vals (nm 5)) (onV (gN 8)) (yes) (eqR false (rU (idx (rN 2) (nm 8))) (rN 1)) [8]))) = kx at qa ⊢
    have ip : isPrime t bit h = !((wider h).any fun g => sureO t g == some bit) := by
      unfold isPrime
      rw [c']
      rfl
    rw [ip]
    have qa' : kx ⟨[o0, slU (.int bit), some o2, some (.ol (acc.map tO)), slU (tO h), some (.ol ((wider h).map tO)), none, none, none], S, []⟩ = some (.u (.v (.bool ((wider h).any fun g => sureO t g == some bit))), ⟨[o0, slU (.int bit), some o2, some (.ol (acc.map tO)), slU (tO h), slU (.list ((wider h).map tO)), none, none, none], S, []⟩) := by
      rw [qa]
      simp [keepU, Function.comp_def]
    cases hb : (wider h).any fun g => sureO t g == some bit with
    | true =>
      rw [hb] at qa'
      rw [if_no (st1 := ⟨[o0, slU (.int bit), some o2, some (.ol (acc.map tO)), slU (tO h), slU (.list ((wider h).map tO)), none, none, none], S, []⟩) (by simp [qa'])]
      simp
    | false =>
      rw [hb] at qa'
      rw [if_yes (st1 := ⟨[o0, slU (.int bit), some o2, some (.ol (acc.map tO)), slU (tO h), slU (.list ((wider h).map tO)), none, none, none], S, []⟩) (by simp [qa'])]
      simp [lineOk_of (show acc.length + 1 ≤ 16777216 by omega)]
  · have c' : (sureO t h == some bit) = false := by simp [c]
    rw [c'] at test
    have ip : isPrime t bit h = false := by
      unfold isPrime
      rw [c']
      rfl
    refine ⟨o5, ?_, h5⟩
    rw [if_no test, ip]
    simp

theorem primes {bit : Int} (ht : t.length = 2 ^ n) (h1 : 1 ≤ n) (hn : n ≤ 9) (S : List Cell) : F_primes [.v (tI t), .v (.int bit)] S = some (.u (.v (.tuple ((primesL t bit n).map tO))), S) := by
  obtain ⟨kvs, es, D⟩ := sure_values ht h1 hn S
  have ep := places_of (ds := t.map .int) (m := n) (by rw [List.length_map, ht]) h1 (by omega) S
  have eh := halves h1 hn S
  have few := halves_le (n := n) (by omega)
  obtain ⟨st', e, x4, x5, rfl, _⟩ := loopI (α := List (Option Int)) (b := (sIf (tst (eqR false (rU (idx (rN 2) (nm 4))) (rN 1))) (seq (sSet 5 (lc (enum (nm 4)) (onT 2 (gCo (gN 6) (gCo (gN 7) (gNo)))) (tst (bin gIsNot (nm 7) (kst .none))) (fz (cal 3 F_with_item (aCons (nm 4) (aCons (nm 6) (aCons (kst .none) (aNil)))))) [6, 7])) (sIf (notT (tru (fz (b1 kAny (rU (fz (lc (vals (nm 5)) (onV (gN 8)) (yes) (eqR false (rU (idx (rN 2) (nm 8))) (rN 1)) [8]))))))) (sDo (up (lmt kAppend (rN 3) (aCons (nm 4) (aNil))))) (sNil))) (sNil))) (fun h => .v (.v (tO h))) (fun pre st => ∃ x4 x5 : Option O, st = ⟨[slU (tI t), slU (.int bit), some (.od kvs), some (.ol ((pre.filter (isPrime t bit)).map tO)), x4, x5, none, none, none], S, []⟩ ∧ (x5 = none ∨ ∃ xs, x5 = some (.ol xs) ∨ x5 = slU (.list xs))) (g := onV (gN 4)) (halvesL n) ⟨[slU (tI t), slU (.int bit), some (.od kvs), some (.ol []), none, none, none, none, none], S, []⟩ ⟨_, _, rfl, .inl rfl⟩ (by
    rintro pre h post st e ⟨x4, x5, rfl, h5⟩
    have l1 := pre_le e
    have l2 := List.length_filter_le (isPrime t bit) pre
    obtain ⟨o5', et, h5'⟩ := pr_turn (o0 := slU (tI t)) (o5 := x5) (o8 := none) (S := S) (o2 := .od kvs) (bit := bit) (h := h) (t := t) (n := n) (acc := pre.filter (isPrime t bit)) (by rw [e]; simp) hn D rfl (by omega) h5 rfl
    refine ⟨_, _, rfl, .inl et, slU (tO h), o5', ?_, h5'⟩
    rw [List.filter_append, List.filter_cons]
    cases isPrime t bit h <;> simp)
  refine run_ret [slU (tI t), slU (.int bit), none, none, none, none, none, none, none] rfl ?_
  have e : fLoop (onV (gN 4)) _ ((halvesL n).map fun h => Itm.v (.v (tO h))) _ = _ := e
  unfold B_primes
  rw [seq_nx (st1 := ⟨[slU (tI t), slU (.int bit), some (.od kvs), some (.ol []), none, none, none, none, none], S, []⟩) (by simp [es, lineOk_of (show 0 ≤ 16777216 by omega)])]
  have ev : (vals (fz (cal 1 F_halves (aCons (fz (cal 1 F_places_of (aCons (nm 0) (aNil)))) (aNil))))) ⟨[slU (tI t), slU (.int bit), some (.od kvs), some (.ol []), none, none, none, none, none], S, []⟩ = some ((halvesL n).map (fun h => Itm.v (.v (tO h))), ⟨[slU (tI t), slU (.int bit), some (.od kvs), some (.ol []), none, none, none, none, none], S, []⟩) := by
    simp [ep, eh, Function.comp_def]
  rw [seq_nx (by rw [q_for, ev, Option.bind_some]; exact e)]
  simp [kTuple, primesL]
theorem law_primes {l : Nat} {kvs : List (PyData × U)} {bit : Int} (D : SureE t n kvs) (hc : S[l]? = some (.cd kvs)) (ht : t.length = 2 ^ n) (hn : n ≤ 9) : F__law_primes [.v (tI t), .v (.int bit), .ref l] S = some (.ol ((primesL t bit n).map tO), S) := by
  have ep := law_places (ds := t.map .int) (m := n) (by rw [List.length_map, ht]) (by omega) S
  have eh := law_halves hn S
  have few := halves_le (n := n) (by omega)
  have sq : sqO S (.u (.ref l)) = some (.d kvs) := by simp [hc]
  obtain ⟨st', e, x4, x5, rfl, _⟩ := loopI (α := List (Option Int)) (b := (sIf (tst (eqR false (rU (idx (rN 2) (nm 4))) (rN 1))) (seq (sSet 5 (lc (enum (nm 4)) (onT 2 (gCo (gN 6) (gCo (gN 7) (gNo)))) (tst (bin gIsNot (nm 7) (kst .none))) (fz (cal 3 F__law_with (aCons (nm 4) (aCons (nm 6) (aCons (kst .none) (aNil)))))) [6, 7])) (sIf (notT (tru (fz (b1 kAny (rU (fz (lc (vals (nm 5)) (onV (gN 8)) (yes) (eqR false (rU (idx (rN 2) (nm 8))) (rN 1)) [8]))))))) (sDo (up (lmt kAppend (rN 3) (aCons (nm 4) (aNil))))) (sNil))) (sNil))) (fun h => .v (.v (tO h))) (fun pre st => ∃ x4 x5 : Option O, st = ⟨[slU (tI t), slU (.int bit), some (.u (.ref l)), some (.ol ((pre.filter (isPrime t bit)).map tO)), x4, x5, none, none, none], S, []⟩ ∧ (x5 = none ∨ ∃ xs, x5 = some (.ol xs) ∨ x5 = slU (.list xs))) (g := onV (gN 4)) (halvesL n) ⟨[slU (tI t), slU (.int bit), some (.u (.ref l)), some (.ol []), none, none, none, none, none], S, []⟩ ⟨_, _, rfl, .inl rfl⟩ (by
    rintro pre h post st e ⟨x4, x5, rfl, h5⟩
    have l1 := pre_le e
    have l2 := List.length_filter_le (isPrime t bit) pre
    obtain ⟨o5', et, h5'⟩ := lp_turn (o0 := slU (tI t)) (o5 := x5) (o8 := none) (S := S) (o2 := .u (.ref l)) (bit := bit) (h := h) (t := t) (n := n) (acc := pre.filter (isPrime t bit)) (by rw [e]; simp) hn D sq (by omega) h5 rfl
    refine ⟨_, _, rfl, .inl et, slU (tO h), o5', ?_, h5'⟩
    rw [List.filter_append, List.filter_cons]
    cases isPrime t bit h <;> simp)
  refine run_ret [slU (tI t), slU (.int bit), some (.u (.ref l)), none, none, none, none, none, none] rfl ?_
  have e : fLoop (onV (gN 4)) _ ((halvesL n).map fun h => Itm.v (.v (tO h))) _ = _ := e
  unfold B__law_primes
  rw [seq_nx (st1 := ⟨[slU (tI t), slU (.int bit), some (.u (.ref l)), some (.ol []), none, none, none, none, none], S, []⟩) (by simp [lineOk_of (show 0 ≤ 16777216 by omega)])]
  have ev : (vals (fz (cal 1 F__law_halves (aCons (fz (cal 1 F__law_places (aCons (nm 0) (aNil)))) (aNil))))) ⟨[slU (tI t), slU (.int bit), some (.u (.ref l)), some (.ol []), none, none, none, none, none], S, []⟩ = some ((halvesL n).map (fun h => Itm.v (.v (tO h))), ⟨[slU (tI t), slU (.int bit), some (.u (.ref l)), some (.ol []), none, none, none, none, none], S, []⟩) := by
    simp [ep, eh, Function.comp_def]
  rw [seq_nx (by rw [q_for, ev, Option.bind_some]; exact e)]
  simp [primesL]
end
end Sp

namespace Sp
open PySem L2 MP Sh

/-! ## the texts of half rows -/
def sgn : Option Int → Str
  | none => "-"
  | some b => toString b
def textOf (h : List (Option Int)) : Str := Txt.join "" (h.map sgn)
def cpO : Option Int → Nat
  | none => 45
  | some b => 48 + b.toNat
theorem sgn_cps {x : Option Int} (hx : x = none ∨ x = some 0 ∨ x = some 1) : (sgn x).cps.toList = [cpO x] := by
  rcases hx with rfl | rfl | rfl <;> decide +kernel
theorem joinL_nil : ∀ ps : List (List Nat), TL.joinL [] ps = ps.flatten
  | [] => rfl
  | [p] => by simp [TL.joinL]
  | p :: q :: r => by
    show p ++ ([] ++ TL.joinL [] (q :: r)) = _
    rw [joinL_nil (q :: r)]
    rfl
theorem text_cps {h : List (Option Int)} (hh : Half h) : (textOf h).cps.toList = h.map cpO := by
  unfold textOf
  rw [TL.join_eq]
  show TL.tl (Str.join "" (h.map sgn)) = _
  rw [TL.tl_join, show TL.tl ("" : Str) = [] from rfl, joinL_nil, List.map_map]
  have : h.map (TL.tl ∘ sgn) = h.map fun x => [cpO x] := List.map_congr_left fun x hx => sgn_cps (hh x hx)
  rw [this]
  clear this hh
  induction h with
  | nil => rfl
  | cons x h ih => rw [List.map_cons, List.flatten_cons, ih]; rfl
theorem cp_lt {x y : Option Int} (hx : x = none ∨ x = some 0 ∨ x = some 1) (hy : y = none ∨ y = some 0 ∨ y = some 1) : (cpO x < cpO y ↔ codeO x < codeO y) ∧ (cpO x = cpO y ↔ x = y) := by
  rcases hx with rfl | rfl | rfl <;> rcases hy with rfl | rfl | rfl <;> decide
theorem code_lt {h : List (Option Int)} (hh : Half h) : code h < 3 ^ h.length := by
  have m := halves_all h.length h rfl hh
  have c := halves_code h.length
  have : code h ∈ (halvesL h.length).map code := List.mem_map_of_mem m
  rw [c] at this
  exact List.mem_range.mp this
theorem code_cons (x : Option Int) : ∀ h : List (Option Int), code (x :: h) = codeO x * 3 ^ h.length + code h := by
  have go : ∀ (h : List (Option Int)) (a : Nat), h.foldl (fun n x => 3 * n + codeO x) a = a * 3 ^ h.length + code h := by
    intro h
    induction h with
    | nil => intro a; simp [code]
    | cons y h ih =>
      intro a
      rw [List.foldl_cons, ih]
      have : code (y :: h) = h.foldl (fun n x => 3 * n + codeO x) (3 * 0 + codeO y) := rfl
      rw [this, ih, List.length_cons, Nat.pow_succ, Nat.add_mul, Nat.mul_zero, Nat.zero_add, Nat.mul_comm 3 a, Nat.mul_assoc, Nat.mul_comm 3 (3 ^ h.length)]
      omega
  intro h
  have e : code (x :: h) = h.foldl (fun n x => 3 * n + codeO x) (3 * 0 + codeO x) := rfl
  rw [e, go, Nat.mul_zero, Nat.zero_add]
theorem text_order : ∀ {h g : List (Option Int)}, Half h → Half g → h.length = g.length → (h.map cpO < g.map cpO ↔ code h < code g)
  | [], [], _, _, _ => by simp [code]
  | [], _ :: _, _, _, e => nomatch e
  | _ :: _, [], _, _, e => nomatch e
  | x :: h, y :: g, hh, hg, e => by
    have hh' : Half h := fun z hz => hh z (List.mem_cons_of_mem _ hz)
    have hg' : Half g := fun z hz => hg z (List.mem_cons_of_mem _ hz)
    have e' : h.length = g.length := by simpa using e
    have ih := text_order hh' hg' e'
    obtain ⟨c1, c2⟩ := cp_lt (hh x List.mem_cons_self) (hg y List.mem_cons_self)
    have l1 := code_lt hh'
    have l2 := code_lt hg'
    rw [List.map_cons, List.map_cons, List.cons_lt_cons_iff, ih, c1, c2, code_cons, code_cons, e']
    rw [e'] at l1
    constructor
    · rintro (q | ⟨rfl, q⟩)
      · have : (codeO x + 1) * 3 ^ g.length ≤ codeO y * 3 ^ g.length := Nat.mul_le_mul_right _ q
        rw [Nat.add_mul, Nat.one_mul] at this
        omega
      · omega
    · intro q
      by_cases d : codeO x < codeO y
      · exact .inl d
      · right
        by_cases d2 : x = y
        · subst d2
          exact ⟨rfl, by omega⟩
        · have d3 : codeO y < codeO x := by
            have hx := hh x List.mem_cons_self
            have hy := hg y List.mem_cons_self
            revert d d2
            rcases hx with rfl | rfl | rfl <;> rcases hy with rfl | rfl | rfl <;> decide
          have : (codeO y + 1) * 3 ^ g.length ≤ codeO x * 3 ^ g.length := Nat.mul_le_mul_right _ d3
          rw [Nat.add_mul, Nat.one_mul] at this
          omega
theorem code_inj {h g : List (Option Int)} (hh : Half h) (hg : Half g) (e : h.length = g.length) (c : code h = code g) : h = g := by
  have m1 := halves_all h.length h rfl hh
  have m2 := halves_all h.length g e.symm hg
  have nd : ((halvesL h.length).map code).Nodup := by rw [halves_code]; exact List.nodup_range
  obtain ⟨i, hi, ei⟩ := List.getElem_of_mem m1
  obtain ⟨j, hj, ej⟩ := List.getElem_of_mem m2
  have c1 : code (halvesL h.length)[i] = i := by
    have := congrArg (fun l => l[i]?) (halves_code h.length)
    simp only [List.getElem?_map, List.getElem?_eq_getElem hi, Option.map_some] at this
    rw [List.getElem?_range (by rw [← halves_len]; exact hi)] at this
    exact Option.some.inj this
  have c2 : code (halvesL h.length)[j] = j := by
    have := congrArg (fun l => l[j]?) (halves_code h.length)
    simp only [List.getElem?_map, List.getElem?_eq_getElem hj, Option.map_some] at this
    rw [List.getElem?_range (by rw [← halves_len]; exact hj)] at this
    exact Option.some.inj this
  rw [ei] at c1
  rw [ej] at c2
  have : i = j := by omega
  subst this
  rw [← ei, ← ej]
theorem halves_up (n : Nat) : (halvesL n).Pairwise fun a b => code a < code b := by
  have : ((halvesL n).map code).Pairwise (· < ·) := by rw [halves_code]; exact List.pairwise_lt_range
  exact List.pairwise_map.mp this
section
variable {S : List Cell} {h : List (Option Int)}
theorem half_text (hh : Half h) (hl : h.length ≤ 1000) (S : List Cell) : F_half_text [.v (tO h)] S = some (.u (.v (.str (textOf h))), S) := by
  have e := lcV1 (i := 1) (st := ⟨[slU (tO h), none], S, []⟩) (r0 := [slU (tO h), none]) (S := S) (h := []) (f := vals (nm 0)) (e := (fz (ifO (tst (bin gIs (nm 1) (kst .none))) (up (kst (.str "-"))) (bl kStr (aCons (nm 1) (aNil)))))) eO (fun x => .str (sgn x)) h (by simp [Function.comp_def]) (by simp) (fun x hx hd => by
    rcases hh x hx with rfl | rfl | rfl
    · simp [eO, sgn]
    · have k : Nat.log2 0 < 1920 := by decide
      simp [eO, sgn, kStr]
    · have k : Nat.log2 1 < 1920 := by decide
      simp [eO, sgn, kStr, k]) (by omega)
  refine run_ret [slU (tO h), none] rfl ?_
  have so : strsOf (h.map fun x => PyData.str (sgn x)) = some (h.map sgn) := by
    clear e hl hh
    induction h with
    | nil => rfl
    | cons x h ih =>
      rw [List.map_cons, List.map_cons]
      unfold strsOf
      rw [ih]
      rfl
  have ln : ((h.map sgn).map (·.length)).sum + (h.map sgn).length * (Str.length "") ≤ 16777216 := by
    have : ((h.map sgn).map (·.length)).sum ≤ h.length := by
      clear e so hl
      induction h with
      | nil => exact Nat.le_refl _
      | cons x h ih =>
        have := ih fun y hy => hh y (List.mem_cons_of_mem _ hy)
        have l1 : (sgn x).length = 1 := by
          have := congrArg List.length (sgn_cps (hh x List.mem_cons_self))
          simpa [Str.length] using this
        simp only [List.map_cons, List.sum_cons, List.length_cons, l1]
        omega
    have z : (Str.length "") = 0 := rfl
    rw [z, Nat.mul_zero]
    omega
  have kj : kJoin (.s "") [.v (.list (h.map fun x => PyData.str (sgn x)))] = some (.v (.str (textOf h))) := by
    show (strsOf (h.map fun x => PyData.str (sgn x))).bind _ = _
    rw [so, Option.bind_some, if_pos ln]
    rfl
  unfold B_half_text
  generalize hk : (lc (vals (nm 0)) (onV (gN 1)) (yes) (fz (ifO (tst (bin gIs (nm 1) (kst .none))) (up (kst (.str "-"))) (bl kStr (aCons (nm 1) (aNil))))) [1]) = kx at e ⊢
  simp [e, kj, keepU]
end
end Sp

namespace Sp
open PySem L2 MP Sh

/-! ## the numbers of the rows that fill, as the law lists them -/
def bitsOf' : Option Int → List Int
  | none => [0, 1]
  | some b => [b]
def numStep (acc : List Int) (x : Option Int) : List Int := acc.flatMap fun m => (bitsOf' x).map fun b => 2 * m + b
def numsL (h : List (Option Int)) : List Int := h.foldl numStep [0]
theorem nums_app (h : List (Option Int)) (x : Option Int) : numsL (h ++ [x]) = numStep (numsL h) x := by simp [numsL]
theorem fills_snoc {r : List Int} {h : List (Option Int)} {x : Option Int} (hx : x = none ∨ x = some 0 ∨ x = some 1) : Fills r (h ++ [x]) ↔ ∃ r' b, r = r' ++ [b] ∧ b ∈ bitsOf' x ∧ Fills r' h := by
  constructor
  · rintro ⟨h1, h2, h3⟩
    rw [List.length_append, List.length_singleton] at h1
    have ne : r ≠ [] := fun z => by rw [z] at h1; simp at h1
    have er := List.dropLast_concat_getLast ne
    refine ⟨r.dropLast, r.getLast ne, er.symm, ?_, by simp [h1], fun y hy => h2 y ((List.dropLast_sublist r).subset hy), fun i c e => ?_⟩
    · have hb := h2 _ (List.getLast_mem ne)
      cases x with
      | none => rcases hb with q | q <;> simp [bitsOf', q]
      | some c =>
        have := h3 h.length c (by simp)
        rw [← er, List.getElem?_append_right (by simp [h1])] at this
        simp [h1] at this
        simp [bitsOf', this]
    · have hi : i < h.length := by
        rcases Nat.lt_or_ge i h.length with q | q
        · exact q
        · rw [List.getElem?_eq_none q] at e; cases e
      have := h3 i c (by rw [List.getElem?_append_left hi]; exact e)
      rw [← er, List.getElem?_append_left (by simp [h1]; exact hi)] at this
      exact this
  · rintro ⟨r', b, rfl, hb, h1, h2, h3⟩
    refine ⟨by simp [h1], fun y hy => ?_, fun i c e => ?_⟩
    · rcases List.mem_append.mp hy with q | q
      · exact h2 y q
      · rw [List.mem_singleton.mp q]
        rcases hx with rfl | rfl | rfl <;> simp [bitsOf'] at hb
        · exact hb
        · exact .inl hb
        · exact .inr hb
    · rcases Nat.lt_or_ge i h.length with q | q
      · rw [List.getElem?_append_left q] at e
        rw [List.getElem?_append_left (by omega)]
        exact h3 i c e
      · rw [List.getElem?_append_right q] at e
        have hi : i = h.length := by
          rcases Nat.eq_or_lt_of_le q with z | z
          · exact z.symm
          · rw [List.getElem?_eq_none (by simp; omega)] at e; cases e
        subst hi
        simp at e
        subst e
        simp [bitsOf'] at hb
        rw [List.getElem?_append_right (by omega), h1, hb]
        simp
theorem nums_mem : ∀ (n : Nat) {h : List (Option Int)}, h.length = n → Half h → (numsL h).Nodup ∧ ∀ m, m ∈ numsL h ↔ ∃ r, Fills r h ∧ num r = m
  | 0, h, hl, _ => by
    have : h = [] := List.length_eq_zero_iff.mp hl
    subst this
    refine ⟨by simp [numsL], fun m => ?_⟩
    constructor
    · intro q
      have : m = 0 := by simpa [numsL] using q
      subst this
      exact ⟨[], ⟨rfl, (fun _ z => nomatch z), fun i b e => by simp at e⟩, rfl⟩
    · rintro ⟨r, ⟨h1, _, _⟩, rfl⟩
      have : r = [] := List.length_eq_zero_iff.mp h1
      subst this
      simp [numsL, num]
  | n + 1, h, hl, hh => by
    have ne : h ≠ [] := fun z => by rw [z] at hl; cases hl
    have eh := List.dropLast_concat_getLast ne
    have hx := hh _ (List.getLast_mem ne)
    have hh' : Half h.dropLast := fun y hy => hh y ((List.dropLast_sublist h).subset hy)
    obtain ⟨nd, mem⟩ := nums_mem n (h := h.dropLast) (by simp [hl]) hh'
    generalize h.dropLast = g at *
    generalize h.getLast ne = x at *
    subst eh
    rw [nums_app]
    have bx : ∀ b ∈ bitsOf' x, b = 0 ∨ b = 1 := fun b hb => by
      rcases hx with rfl | rfl | rfl <;> simp [bitsOf'] at hb
      · exact hb
      · exact .inl hb
      · exact .inr hb
    refine ⟨?_, fun m => ?_⟩
    · unfold numStep
      refine List.pairwise_flatMap.mpr ⟨fun m _ => ?_, ?_⟩
      · refine List.pairwise_map.mpr ?_
        have : (bitsOf' x).Nodup := by rcases hx with rfl | rfl | rfl <;> decide
        exact this.imp fun {a b} q e => q (by omega)
      · refine nd.imp fun {a b} q y hy z hz e => ?_
        obtain ⟨c, hc, rfl⟩ := List.mem_map.mp hy
        obtain ⟨d, hd, rfl⟩ := List.mem_map.mp hz
        have := bx c hc
        have := bx d hd
        exact q (by omega)
    · unfold numStep
      rw [List.mem_flatMap]
      constructor
      · rintro ⟨k, hk, q⟩
        obtain ⟨b, hb, rfl⟩ := List.mem_map.mp q
        obtain ⟨r, f, rfl⟩ := (mem k).mp hk
        exact ⟨r ++ [b], (fills_snoc hx).mpr ⟨r, b, rfl, hb, f⟩, num_app r b⟩
      · rintro ⟨r, f, rfl⟩
        obtain ⟨r', b, rfl, hb, f'⟩ := (fills_snoc hx).mp f
        exact ⟨num r', (mem _).mpr ⟨r', f', rfl⟩, List.mem_map.mpr ⟨b, hb, (num_app r' b).symm⟩⟩
theorem nums_few : ∀ (h : List (Option Int)), (numsL h).length ≤ 2 ^ h.length := by
  have go : ∀ (h : List (Option Int)) (acc : List Int), (h.foldl numStep acc).length ≤ acc.length * 2 ^ h.length := by
    intro h
    induction h with
    | nil => intro acc; simp
    | cons x h ih =>
      intro acc
      rw [List.foldl_cons, List.length_cons, Nat.pow_succ]
      refine Nat.le_trans (ih _) ?_
      have : (numStep acc x).length ≤ 2 * acc.length := flat_le _ 2 acc fun m _ => by cases x <;> simp [bitsOf']
      calc (numStep acc x).length * 2 ^ h.length ≤ 2 * acc.length * 2 ^ h.length := Nat.mul_le_mul_right _ this
        _ = acc.length * (2 ^ h.length * 2) := by rw [Nat.mul_comm 2 acc.length, Nat.mul_assoc, Nat.mul_comm 2]
  intro h
  have := go h [0]
  simpa [numsL] using this
section
variable {S : List Cell} {h : List (Option Int)} {n : Nat}
theorem law_filling (hh : Half h) (hl : h.length ≤ 9) (S : List Cell) : F__law_filling [.v (tO h)] S = some (.ol ((numsL h).map .int), S) := by
  have l3 : (2 : Nat) ^ 9 = 512 := by decide
  obtain ⟨st', e, a, b, c, d, f, rfl⟩ := loopI (α := Option Int) (b := (seq (sSet 3 (ifO (tst (bin gIs (nm 2) (kst .none))) (lstF (aCons (kst (.int 0)) (aCons (kst (.int 1)) (aNil)))) (lstF (aCons (nm 2) (aNil))))) (seq (sSet 4 (lstF (aNil))) (seq (sFor (vals (nm 1)) (onV (gN 5)) (sDo (up (lmt kExtend (rN 4) (aCons (fz (lc (vals (nm 3)) (onV (gN 6)) (yes) (bin gAdd (bin gMul (kst (.int 2)) (nm 5)) (nm 6)) [6])) (aNil)))))) (sSet 1 (b1 kList (rN 4))))))) (fun x => .v (.v (eO x))) (fun pre st => ∃ a b c d f : Option O, st = ⟨[slU (tO h), some (.ol ((numsL pre).map .int)), a, b, c, d, none], S, []⟩) (g := onV (gN 2)) h ⟨[slU (tO h), some (.ol [.int 0]), none, none, none, none, none], S, []⟩ ⟨_, _, _, _, none, rfl⟩ (by
    rintro pre x post st e ⟨a, b, c, d, f, rfl⟩
    have l1 := pre_le e
    have l2 : (numsL pre).length ≤ 2 ^ 9 := Nat.le_trans (nums_few pre) (two_pow_le (by omega))
    have hx := hh x (by rw [e]; simp)
    have s3 : (sSet 3 (ifO (tst (bin gIs (nm 2) (kst .none))) (lstF (aCons (kst (.int 0)) (aCons (kst (.int 1)) (aNil)))) (lstF (aCons (nm 2) (aNil))))) ⟨[slU (tO h), some (.ol ((numsL pre).map .int)), slU (eO x), b, c, d, none], S, []⟩ = some (.nx, ⟨[slU (tO h), some (.ol ((numsL pre).map .int)), slU (eO x), some (.ol ((bitsOf' x).map .int)), c, d, none], S, []⟩) := by
      cases x <;> simp [eO, bitsOf', lineOk_of (show 2 ≤ 16777216 by omega), lineOk_of (show 1 ≤ 16777216 by omega)]
    obtain ⟨st', e3, x3, d', rfl, h3⟩ := loopI (α := Int) (b := (sDo (up (lmt kExtend (rN 4) (aCons (fz (lc (vals (nm 3)) (onV (gN 6)) (yes) (bin gAdd (bin gMul (kst (.int 2)) (nm 5)) (nm 6)) [6])) (aNil)))))) (fun m => .v (.v (.int m))) (fun p st => ∃ x3 d' : Option O, st = ⟨[slU (tO h), slU (.list ((numsL pre).map .int)), slU (eO x), x3, some (.ol ((p.flatMap fun m => (bitsOf' x).map fun b => 2 * m + b).map .int)), d', none], S, []⟩ ∧ (x3 = some (.ol ((bitsOf' x).map .int)) ∨ x3 = slU (.list ((bitsOf' x).map .int)))) (g := onV (gN 5)) (numsL pre) ⟨[slU (tO h), slU (.list ((numsL pre).map .int)), slU (eO x), some (.ol ((bitsOf' x).map .int)), some (.ol []), d, none], S, []⟩ ⟨_, _, rfl, .inl rfl⟩ (by
      rintro p m q st e2 ⟨x3, d', rfl, h3⟩
      have l4 := pre_le e2
      have l5 : (p.flatMap fun m => (bitsOf' x).map fun b => 2 * m + b).length ≤ 2 * p.length := flat_le _ 2 p fun m _ => by cases x <;> simp [bitsOf']
      have l6 : (bitsOf' x).length ≤ 2 := by cases x <;> simp [bitsOf']
      have el := lcV1 (i := 6) (st := ⟨[slU (tO h), slU (.list ((numsL pre).map .int)), slU (eO x), x3, some (.ol ((p.flatMap fun m => (bitsOf' x).map fun b => 2 * m + b).map .int)), slU (.int m), none], S, []⟩) (r0 := [slU (tO h), slU (.list ((numsL pre).map .int)), slU (eO x), slU (.list ((bitsOf' x).map .int)), some (.ol ((p.flatMap fun m => (bitsOf' x).map fun b => 2 * m + b).map .int)), slU (.int m), none]) (S := S) (h := []) (f := vals (nm 3)) (e := (bin gAdd (bin gMul (kst (.int 2)) (nm 5)) (nm 6))) (fun b => .int b) (fun b => .int (2 * m + b)) (bitsOf' x) (by rcases h3 with rfl | rfl <;> simp [Function.comp_def]) (by simp) (fun b hb hd => by simp) (by omega)
      generalize hk : (lc (vals (nm 3)) (onV (gN 6)) (yes) (bin gAdd (bin gMul (kst (.int 2)) (nm 5)) (nm 6)) [6]) = kx at el ⊢
      refine ⟨_, ⟨[slU (tO h), slU (.list ((numsL pre).map .int)), slU (eO x), slU (.list ((bitsOf' x).map .int)), some (.ol (((p ++ [m]).flatMap fun m => (bitsOf' x).map fun b => 2 * m + b).map .int)), slU (.int m), none], S, []⟩, rfl, .inl ?_, _, _, rfl, .inr rfl⟩
      have e7 : ((p ++ [m]).flatMap fun m => (bitsOf' x).map fun b => 2 * m + b) = (p.flatMap fun m => (bitsOf' x).map fun b => 2 * m + b) ++ (bitsOf' x).map fun b => 2 * m + b := by
        rw [List.flatMap_append]
        simp
      rw [e7]
      generalize (p.flatMap fun m => (bitsOf' x).map fun b => 2 * m + b) = acc at *
      have lk := lineOk_of (show acc.length + (bitsOf' x).length ≤ 16777216 by omega)
      rw [q_do, q_up, q_lmt]
      simp [el, lk, keepU])
    refine ⟨⟨[slU (tO h), some (.ol ((numsL pre).map .int)), slU (eO x), b, c, d, none], S, []⟩, ⟨[slU (tO h), some (.ol ((numsL (pre ++ [x])).map .int)), slU (eO x), x3, some (.ol ((numsL (pre ++ [x])).map .int)), d', none], S, []⟩, by simp, .inl ?_, _, _, _, _, none, rfl⟩
    rw [seq_nx s3]
    rw [seq_nx (st1 := ⟨[slU (tO h), some (.ol ((numsL pre).map .int)), slU (eO x), some (.ol ((bitsOf' x).map .int)), some (.ol []), d, none], S, []⟩) (by simp [lineOk_of (show 0 ≤ 16777216 by omega)])]
    have ev : vals (nm 1) ⟨[slU (tO h), some (.ol ((numsL pre).map .int)), slU (eO x), some (.ol ((bitsOf' x).map .int)), some (.ol []), d, none], S, []⟩ = some ((numsL pre).map (fun m => Itm.v (.v (.int m))), ⟨[slU (tO h), slU (.list ((numsL pre).map .int)), slU (eO x), some (.ol ((bitsOf' x).map .int)), some (.ol []), d, none], S, []⟩) := by
      simp [Function.comp_def]
    rw [seq_nx (by rw [q_for, ev, Option.bind_some]; exact e3)]
    rw [nums_app]
    simp [kList, numStep])
  refine run_ret [slU (tO h), none, none, none, none, none, none] rfl ?_
  have e : fLoop (onV (gN 2)) _ (h.map fun x => Itm.v (.v (eO x))) _ = _ := e
  unfold B__law_filling
  rw [seq_nx (st1 := ⟨[slU (tO h), some (.ol [.int 0]), none, none, none, none, none], S, []⟩) (by simp [lineOk_of (show 1 ≤ 16777216 by omega)])]
  have ev : vals (nm 0) ⟨[slU (tO h), some (.ol [.int 0]), none, none, none, none, none], S, []⟩ = some (h.map (fun x => Itm.v (.v (eO x))), ⟨[slU (tO h), some (.ol [.int 0]), none, none, none, none, none], S, []⟩) := by
    simp [Function.comp_def]
  rw [seq_nx (by rw [q_for, ev, Option.bind_some]; exact e)]
  simp
/-! ## what two rows have alike -/
def alikeO (one other : List Int) : List (Option Int) := (one.zip other).map fun p => if p.1 = p.2 then some p.1 else none
theorem alike_half {one other : List Int} (h1 : Bits one) : Half (alikeO one other) := fun x hx => by
  obtain ⟨p, hp, rfl⟩ := List.mem_map.mp hx
  split
  · rcases h1 p.1 (List.of_mem_zip hp).1 with q | q <;> simp [q]
  · simp
theorem alike_len {one other : List Int} (e : one.length = other.length) : (alikeO one other).length = one.length := by simp [alikeO, e]
theorem alike_comm : ∀ one other : List Int, alikeO one other = alikeO other one
  | [], [] => rfl
  | [], _ :: _ => rfl
  | _ :: _, [] => rfl
  | x :: a, y :: b => by
    show (if x = y then some x else none) :: alikeO a b = (if y = x then some y else none) :: alikeO b a
    rw [alike_comm a b]
    by_cases c : x = y
    · rw [if_pos c, if_pos c.symm, c]
    · rw [if_neg c, if_neg fun z => c z.symm]
theorem zip_lc {one other : List Int} (hl : one.length ≤ 1000) {o0 : Option O} : (lc (zipI (nm 1) (nm 2)) (onT 2 (gCo (gN 3) (gCo (gN 4) (gNo)))) (yes) (ifU (tst (eqR false (rN 3) (rN 4))) (nm 3) (kst .none)) [3, 4]) ⟨[o0, slU (tI one), slU (tI other), none, none], S, []⟩ = some (.ol ((alikeO one other).map eO), ⟨[o0, slU (tI one), slU (tI other), none, none], S, []⟩) := by
  have e := lcP1 (i := 3) (j := 4) (st := ⟨[o0, slU (tI one), slU (tI other), none, none], S, []⟩) (r0 := [o0, slU (tI one), slU (tI other), none, none]) (S := S) (h := []) (f := zipI (nm 1) (nm 2)) (e := (ifU (tst (eqR false (rN 3) (rN 4))) (nm 3) (kst .none))) (fun p : Int × Int => .int p.1) (fun p => .int p.2) (fun p => eO (if p.1 = p.2 then some p.1 else none)) (one.zip other) (by
    simp [zpI_map]) (by simp) (by simp) (by decide) (fun p hp hd => by
    by_cases c : p.1 = p.2
    · simp [c, eO]
    · simp [c, eO]) (by rw [List.length_zip]; omega)
  rw [e]
  unfold alikeO
  rw [List.map_map]
  simp [keepU, Function.comp_def]
theorem isNone_eO (x : Option Int) : isNone (.v (eO x)) = !x.isSome := by cases x <;> rfl
theorem lie_together {t one other : List Int} (ht : t.length = 2 ^ n) (h1 : one.length = n) (h2 : other.length = n) (b1 : Bits one) (hn : n ≤ 9) (S : List Cell) : F_lie_together [.v (tI t), .v (tI one), .v (tI other)] S = some (.u (.v (.bool (sureO t (alikeO one other)).isSome)), S) := by
  have e := zip_lc (S := S) (one := one) (other := other) (o0 := slU (tI t)) (by omega)
  have so := sure_on ht (alike_half (other := other) b1) ((alike_len (h1.trans h2.symm)).trans h1) hn S
  have nn := isNone_eO (sureO t (alikeO one other))
  refine run_ret [slU (tI t), slU (tI one), slU (tI other), none, none] rfl ?_
  unfold B_lie_together
  generalize hk : (lc (zipI (nm 1) (nm 2)) (onT 2 (gCo (gN 3) (gCo (gN 4) (gNo)))) (yes) (ifU (tst (eqR false (rN 3) (rN 4))) (nm 3) (kst .none)) [3, 4]) = kx at e ⊢
  generalize eO (sureO t (alikeO one other)) = x at *
  simp [e, kTuple, so, gIsNot, nn]
theorem law_together {t one other : List Int} {l : Nat} {kvs : List (PyData × U)} (D : SureE t n kvs) (hc : S[l]? = some (.cd kvs)) (h1 : one.length = n) (h2 : other.length = n) (b1 : Bits one) (hn : n ≤ 9) : F__law_together [.ref l, .v (tI one), .v (tI other)] S = some (.u (.v (.bool (sureO t (alikeO one other)).isSome)), S) := by
  have e := zip_lc (S := S) (one := one) (other := other) (o0 := some (.u (.ref l))) (by omega)
  have m := halves_all n (alikeO one other) ((alike_len (h1.trans h2.symm)).trans h1) (alike_half b1)
  have ok := tupO_ok D.tup (alikeO one other)
  have dg := D.get _ m
  have nn := isNone_eO (sureO t (alikeO one other))
  refine run_ret [some (.u (.ref l)), slU (tI one), slU (tI other), none, none] rfl ?_
  unfold B__law_together
  generalize hk : (lc (zipI (nm 1) (nm 2)) (onT 2 (gCo (gN 3) (gCo (gN 4) (gNo)))) (yes) (ifU (tst (eqR false (rN 3) (rN 4))) (nm 3) (kst .none)) [3, 4]) = kx at e ⊢
  generalize eO (sureO t (alikeO one other)) = x at *
  simp [e, kTuple, hc, ok, dg, gIsNot, nn]
end
end Sp

namespace Sp
open PySem L2 MP Sh

/-! ## the primes that are needed, by the law -/
theorem kf_int (a : Int) : kf (.int a) = some (.num a) := rfl
theorem kf_int_inj {a b : Int} : kf (.int a) = kf (.int b) ↔ a = b := by
  rw [kf_int, kf_int]
  constructor
  · intro e
    cases e
    rfl
  · rintro rfl
    rfl
theorem dput_flats {kvs : List (PyData × U)} {k : PyData} {v : U} (h : flatKeys kvs = true) (hk : isTup k = false) : flatKeys (dput kvs k v) = true := by
  cases kvs with
  | nil => show (!isTup k) = true; rw [hk]; rfl
  | cons p kvs =>
    unfold dput
    split
    · rw [List.map_cons]
      show (!isTup (if sameK k p then (p.1, v) else p).1) = true
      split <;> exact h
    · exact h
theorem int_ok {kvs : List (PyData × U)} (h : flatKeys kvs = true) (a : Int) : kOk kvs (.int a) = true := by
  unfold kOk
  rw [h]
  simp [keyV]
structure CntD (ms : List Int) (kvs : List (PyData × U)) : Prop where
  flat : flatKeys kvs = true
  len : kvs.length ≤ ms.length
  get : ∀ m, dget kvs (.int m) = if m ∈ ms then some (.v (.int (ms.count m : Nat))) else none
theorem CntD.nil : CntD [] [] := ⟨rfl, Nat.le_refl _, fun m => rfl⟩
theorem CntD.at_ {ms : List Int} {kvs : List (PyData × U)} (D : CntD ms kvs) (m : Int) : (dget kvs (.int m)).getD (.v (.int 0)) = .v (.int (ms.count m : Nat)) := by
  rw [D.get]
  split
  · rfl
  · rename_i c
    rw [List.count_eq_zero_of_not_mem c]
    rfl
theorem CntD.put {ms : List Int} {kvs : List (PyData × U)} (D : CntD ms kvs) (m : Int) : CntD (ms ++ [m]) (dput kvs (.int m) (.v (.int ((ms.count m : Nat) + 1)))) := by
  refine ⟨dput_flats D.flat rfl, ?_, fun k => ?_⟩
  · have := dput_len (kvs := kvs) (k := .int m) (v := .v (.int ((ms.count m : Nat) + 1)))
    have := D.len
    rw [List.length_append, List.length_singleton]
    omega
  · rw [dget_dput]
    by_cases c : m = k
    · subst c
      rw [if_pos rfl, if_pos (by simp), List.count_append]
      simp
    · rw [if_neg fun z => c (kf_int_inj.mp z), D.get]
      have e : (ms ++ [m]).count k = ms.count k := by
        rw [List.count_append, List.count_singleton, if_neg (by simpa using c)]
        rfl
      have e2 : k ∈ ms ++ [m] ↔ k ∈ ms := by
        rw [List.mem_append, List.mem_singleton]
        exact ⟨fun z => z.elim id fun q => absurd q.symm c, .inl⟩
      rw [e]
      by_cases d : k ∈ ms
      · rw [if_pos d, if_pos (e2.mpr d)]
      · rw [if_neg d, if_neg fun z => d (e2.mp z)]
def needB (ps : List (List (Option Int))) (h : List (Option Int)) : Bool := (numsL h).any fun m => (ps.flatMap numsL).count m == 1
section
variable {S : List Cell} {ps : List (List (Option Int))} {h : List (Option Int)} {o0 o1 o2 o3 o4 : Option O} {n : Nat}
abbrev stW (ps : List (List (Option Int))) (kvs : List (PyData × U)) (o2 o3 o4 : Option O) (S : List Cell) : Stt := ⟨[slU (.tuple (ps.map tO)), some (.od kvs), o2, o3, o4], S, []⟩
theorem ln_fill {kvs : List (PyData × U)} (hh : Half h) (hl : h.length ≤ 9) (hd : List O) : vals (fz (cal 1 F__law_filling (aCons (nm 3) (aNil)))) ⟨[o0, o1, o2, slU (tO h), o4], S, hd⟩ = some ((numsL h).map (fun m => Itm.v (.v (.int m))), ⟨[o0, o1, o2, slU (tO h), o4], S, hd⟩) := by
  have e := law_filling hh hl S
  simp [e, Function.comp_def]
theorem ln_turn {kvs : List (PyData × U)} {ms : List Int} (D : CntD ms kvs) (hh : Half h) (hl : h.length ≤ 9) (hm : ms.length ≤ 1000000) : ∃ kvs' o4', (sFor (vals (fz (cal 1 F__law_filling (aCons (nm 3) (aNil))))) (onV (gN 4)) (sAsg (bin gAdd (mth kGet (rN 1) (aCons (nm 4) (aCons (kst (.int 0)) (aNil)))) (kst (.int 1))) (gS (rN 1) (nm 4)))) (stW ps kvs o2 (slU (tO h)) o4 S) = some (.nx, stW ps kvs' o2 (slU (tO h)) o4' S) ∧ CntD (ms ++ numsL h) kvs' := by
  have few : (numsL h).length ≤ 2 ^ 9 := Nat.le_trans (nums_few h) (two_pow_le hl)
  obtain ⟨st', e, kvs', o4', rfl, D'⟩ := loopI (α := Int) (b := (sAsg (bin gAdd (mth kGet (rN 1) (aCons (nm 4) (aCons (kst (.int 0)) (aNil)))) (kst (.int 1))) (gS (rN 1) (nm 4)))) (fun m => .v (.v (.int m))) (fun pre st => ∃ kvs' o4', st = stW ps kvs' o2 (slU (tO h)) o4' S ∧ CntD (ms ++ pre) kvs') (g := onV (gN 4)) (numsL h) (stW ps kvs o2 (slU (tO h)) o4 S) ⟨_, _, rfl, by rw [List.append_nil]; exact D⟩ (by
    rintro pre m post st e ⟨kvs', o4', rfl, D'⟩
    have l1 := pre_le e
    have ok := int_ok D'.flat m
    have at_ := D'.at_ m
    have D2 := D'.put m
    have le := D'.len
    rw [List.length_append] at le
    have lt : kvs'.length < 16777216 := by omega
    refine ⟨_, stW ps (dput kvs' (.int m) (.v (.int (((ms ++ pre).count m : Nat) + 1)))) o2 (slU (tO h)) (slU (.int m)) S, rfl, .inl ?_, _, _, rfl, by rw [← List.append_assoc]; exact D2⟩
    have g : kGet (.d kvs') [.v (.int m), .v (.int 0)] = some (.v (.int ((ms ++ pre).count m : Nat))) := by
      show (if kOk kvs' (.int m) = true then some ((dget kvs' (.int m)).getD (.v (.int 0))) else none) = _
      rw [if_pos ok, at_]
    generalize (ms ++ pre).count m = c at *
    simp [ok, g, lt])
  refine ⟨kvs', o4', ?_, D'⟩
  rw [q_for, ln_fill (kvs := kvs) hh hl, Option.bind_some]
  exact e
theorem law_needed (hp : ∀ h ∈ ps, Half h ∧ h.length ≤ 9) (hl : ps.length ≤ 1000) (S : List Cell) : F__law_needed [.v (.tuple (ps.map tO))] S = some (.u (.v (.tuple ((ps.filter (needB ps)).map tO))), S) := by
  have flat : ∀ pre : List (List (Option Int)), (∀ h ∈ pre, h.length ≤ 9) → (pre.flatMap numsL).length ≤ 512 * pre.length := fun pre hq => flat_le _ 512 pre fun h hh => Nat.le_trans (nums_few h) (two_pow_le (hq h hh))
  obtain ⟨st1, e1, kvs, o3, o4, rfl, D⟩ := loopI (α := List (Option Int)) (b := (sFor (vals (fz (cal 1 F__law_filling (aCons (nm 3) (aNil))))) (onV (gN 4)) (sAsg (bin gAdd (mth kGet (rN 1) (aCons (nm 4) (aCons (kst (.int 0)) (aNil)))) (kst (.int 1))) (gS (rN 1) (nm 4))))) (fun h => .v (.v (tO h))) (fun pre st => ∃ kvs' o3' o4', st = stW ps kvs' (some (.ol [])) o3' o4' S ∧ CntD (pre.flatMap numsL) kvs') (g := onV (gN 3)) ps (stW ps [] (some (.ol [])) none none S) ⟨_, _, _, rfl, CntD.nil⟩ (by
    rintro pre h post st e ⟨kvs', o3', o4', rfl, D'⟩
    have mem : h ∈ ps := by rw [e]; simp
    have l1 := pre_le e
    have l2 := flat pre fun g hg => (hp g (by rw [e]; simp [hg])).2
    obtain ⟨k2, o4', e2, D2⟩ := ln_turn (ps := ps) (o2 := some (.ol [])) (o4 := o4') (S := S) D' (hp h mem).1 (hp h mem).2 (by omega)
    refine ⟨_, _, rfl, .inl e2, _, _, _, rfl, ?_⟩
    rw [List.flatMap_append]
    simpa using D2)
  obtain ⟨st2, e2, o3, o4, rfl⟩ := loopI (α := List (Option Int)) (b := (sIf (tru (fz (b1 kAny (rU (fz (lc (vals (fz (cal 1 F__law_filling (aCons (nm 3) (aNil))))) (onV (gN 4)) (yes) (eqR false (rU (idx (rN 1) (nm 4))) (rU (kst (.int 1)))) [4])))))) (sDo (up (lmt kAppend (rN 2) (aCons (nm 3) (aNil))))) (sNil))) (fun h => .v (.v (tO h))) (fun pre st => ∃ o3' o4', st = stW ps kvs (some (.ol ((pre.filter (needB ps)).map tO))) o3' o4' S) (g := onV (gN 3)) ps (stW ps kvs (some (.ol [])) o3 o4 S) ⟨_, _, rfl⟩ (by
    rintro pre h post st e ⟨o3', o4', rfl⟩
    have mem : h ∈ ps := by rw [e]; simp
    have few : (numsL h).length ≤ 2 ^ 9 := Nat.le_trans (nums_few h) (two_pow_le (hp h mem).2)
    have el := lcV1 (i := 4) (st := stW ps kvs (some (.ol ((pre.filter (needB ps)).map tO))) (slU (tO h)) o4' S) (r0 := [slU (.tuple (ps.map tO)), some (.od kvs), some (.ol ((pre.filter (needB ps)).map tO)), slU (tO h), o4']) (S := S) (h := []) (f := vals (fz (cal 1 F__law_filling (aCons (nm 3) (aNil))))) (e := (eqR false (rU (idx (rN 1) (nm 4))) (rU (kst (.int 1))))) (fun m => .int m) (fun m => .bool ((ps.flatMap numsL).count m == 1)) (numsL h) (ln_fill (kvs := kvs) (hp h mem).1 (hp h mem).2 []) (by simp) (fun m hm hd => by
      have ok := int_ok D.flat m
      have g := D.get m
      rw [if_pos (List.mem_flatMap.mpr ⟨h, mem, hm⟩)] at g
      generalize (ps.flatMap numsL).count m = c at *
      have q : ((c : Int) == 1) = (c == 1) := by
        by_cases z : c = 1
        · subst z; rfl
        · rw [beq_eq_false_iff_ne.mpr z, beq_eq_false_iff_ne.mpr (by omega)]
      simp [ok, g, q]) (by omega)
    have l1 := pre_le e
    have l2 := List.length_filter_le (needB ps) pre
    have qa := q_any (r := rU (fz (lc (vals (fz (cal 1 F__law_filling (aCons (nm 3) (aNil))))) (onV (gN 4)) (yes) (eqR false (rU (idx (rN 1) (nm 4))) (rU (kst (.int 1)))) [4]))) (st := stW ps kvs (some (.ol ((pre.filter (needB ps)).map tO))) (slU (tO h)) o4' S) (bs := (numsL h).map fun m => (ps.flatMap numsL).count m == 1) (by
      rw [q_rU, q_fz, el]
      rfl) (by rw [List.map_map]; rfl)
    rw [List.any_map] at qa
    have qa : b1 kAny _ _ = some (.u (.v (.bool (needB ps h))), _) := qa
    have lk : lineOk ((pre.filter (needB ps)).length + 1) = true := lineOk_of (by omega)
    refine ⟨_, stW ps kvs (some (.ol (((pre ++ [h]).filter (needB ps)).map tO))) (slU (tO h)) (keepU (some o4')) S, rfl, .inl ?_, _, _, rfl⟩
    generalize hk : b1 kAny (rU (fz (lc (vals (fz (cal 1 F__law_filling (aCons (nm 3) (aNil))))) (onV (gN 4)) (yes) (eqR false (rU (idx (rN 1) (nm 4))) (rU (kst (.int 1)))) [4]))) = kx at qa ⊢
    rw [List.filter_append]
    generalize pre.filter (needB ps) = acc at *
    cases hb : needB ps h
    · rw [hb] at qa
      simp [qa, hb]
    · rw [hb] at qa
      simp [qa, hb, lk])
  refine run_ret [slU (.tuple (ps.map tO)), none, none, none, none] rfl ?_
  have e1 : fLoop (onV (gN 3)) _ (ps.map fun x => Itm.v (.v (tO x))) _ = _ := e1
  have e2 : fLoop (onV (gN 3)) _ (ps.map fun x => Itm.v (.v (tO x))) _ = _ := e2
  unfold B__law_needed
  rw [seq_nx (st1 := stW ps [] (some (.ol [])) none none S) (by simp [lineOk_of (show 0 ≤ 16777216 by omega)])]
  have ev : ∀ (o1 o2 o3 o4 : Option O), vals (nm 0) ⟨[slU (.tuple (ps.map tO)), o1, o2, o3, o4], S, []⟩ = some (ps.map (fun x => Itm.v (.v (tO x))), ⟨[slU (.tuple (ps.map tO)), o1, o2, o3, o4], S, []⟩) := fun _ _ _ _ => by
    simp [Function.comp_def]
  rw [seq_nx (by rw [q_for, ev, Option.bind_some]; exact e1)]
  rw [seq_nx (by rw [q_for, ev, Option.bind_some]; exact e2)]
  simp [kTuple]
end
end Sp

namespace Sp
open PySem L2 MP Sh

/-! ## the primes that are needed, by the program -/
abbrev HalfL := List (List (Option Int))
def kvR (ks : List (List Int × Nat)) : List (PyData × U) := ks.map fun p => (tI p.1, U.ref p.2)
theorem kvR_none {r : List Int} : ∀ {ks : List (List Int × Nat)}, r ∉ ks.map (·.1) → dget (kvR ks) (tI r) = none
  | [], _ => rfl
  | p :: ks, h => by
    show dget ((tI p.1, U.ref p.2) :: kvR ks) (tI r) = none
    rw [dget_cons, if_neg, kvR_none fun z => h (List.mem_cons_of_mem _ z)]
    exact fun z => h (by rw [← kf_tI_inj z]; exact List.mem_cons_self)
theorem kvR_some {r : List Int} {l : Nat} : ∀ {ks : List (List Int × Nat)}, (ks.map (·.1)).Nodup → (r, l) ∈ ks → dget (kvR ks) (tI r) = some (.ref l)
  | p :: ks, nd, h => by
    show dget ((tI p.1, U.ref p.2) :: kvR ks) (tI r) = _
    rw [List.map_cons, List.nodup_cons] at nd
    rw [dget_cons]
    rcases List.mem_cons.mp h with e | e
    · subst e
      rw [if_pos rfl]
    · rw [if_neg, kvR_some nd.2 e]
      exact fun z => nd.1 (by rw [kf_tI_inj z]; exact List.mem_map.mpr ⟨_, e, rfl⟩)
theorem kvR_tup {ks : List (List Int × Nat)} : tupKeys (kvR ks) = true := by
  cases ks <;> rfl
structure FoundD (S0 S : List Cell) (hs : List Int → HalfL) (ks : List (List Int × Nat)) : Prop where
  len : S0.length ≤ S.length
  old : ∀ i, i < S0.length → S[i]? = S0[i]?
  cell : ∀ p ∈ ks, S0.length ≤ p.2 ∧ S[p.2]? = some (.cl ((hs p.1).map tO))
  mem : ∀ r, r ∈ ks.map (·.1) ↔ hs r ≠ []
  nd1 : (ks.map (·.1)).Nodup
  nd2 : (ks.map (·.2)).Nodup
def hsPut (hs : List Int → HalfL) (r : List Int) (h : List (Option Int)) : List Int → HalfL := fun s => if s = r then hs s ++ [h] else hs s
theorem get_lt {S : List Cell} {l : Nat} {c : Cell} (h : S[l]? = some c) : l < S.length := by
  rcases Nat.lt_or_ge l S.length with q | q
  · exact q
  · rw [List.getElem?_eq_none q] at h
    cases h
section
variable {S0 S : List Cell} {hs : List Int → HalfL} {ks : List (List Int × Nat)} {r : List Int} {h : List (Option Int)} {o0 o1 o2 o3 o4 o5 o6 : Option O} {n : Nat} {t : List Int}
theorem FoundD.old_row (D : FoundD S0 S hs ks) {l : Nat} (m : (r, l) ∈ ks) : FoundD S0 ((S ++ [Cell.cl []]).set l (.cl ((hs r ++ [h]).map tO))) (hsPut hs r h) ks := by
  have lt := get_lt (D.cell _ m).2
  have lo := (D.cell _ m).1
  have uni : ∀ p ∈ ks, (p.1 = r ↔ p.2 = l) := fun p hp => by
    have go : ∀ ks : List (List Int × Nat), (ks.map (·.1)).Nodup → (ks.map (·.2)).Nodup → p ∈ ks → (r, l) ∈ ks → (p.1 = r ↔ p.2 = l) := by
      intro ks
      induction ks with
      | nil => intro _ _ z; cases z
      | cons q ks ih =>
        intro n1 n2 a b
        rw [List.map_cons, List.nodup_cons] at n1 n2
        rcases List.mem_cons.mp a with rfl | a
        · rcases List.mem_cons.mp b with b | b
          · rw [← b]; simp
          · exact ⟨fun z => absurd (List.mem_map.mpr ⟨_, b, z.symm⟩) n1.1, fun z => absurd (List.mem_map.mpr ⟨_, b, z.symm⟩) n2.1⟩
        · rcases List.mem_cons.mp b with b | b
          · rw [← b] at n1 n2
            exact ⟨fun z => absurd (List.mem_map.mpr ⟨p, a, z⟩) n1.1, fun z => absurd (List.mem_map.mpr ⟨p, a, z⟩) n2.1⟩
          · exact ih n1.2 n2.2 a b
    exact go ks D.nd1 D.nd2 hp m
  refine ⟨by simp; have := D.len; omega, fun i hi => ?_, fun p hp => ⟨(D.cell p hp).1, ?_⟩, fun s => ?_, D.nd1, D.nd2⟩
  · rw [List.getElem?_set_ne (by omega), List.getElem?_append_left (by have := D.len; omega)]
    exact D.old i hi
  · unfold hsPut
    have c := (D.cell p hp).2
    by_cases z : p.1 = r
    · have z2 := (uni p hp).mp z
      rw [z2, if_pos z, z, List.getElem?_set_self (by simp; omega)]
    · rw [if_neg z, List.getElem?_set_ne (fun q => z ((uni p hp).mpr q.symm)), List.getElem?_append_left (get_lt c), c]
  · rw [D.mem s]
    unfold hsPut
    by_cases z : s = r
    · subst z
      rw [if_pos rfl]
      have : hs s ≠ [] := (D.mem s).mp (List.mem_map.mpr ⟨_, m, rfl⟩)
      simp [this]
    · rw [if_neg z]
theorem FoundD.new_row (D : FoundD S0 S hs ks) (m : r ∉ ks.map (·.1)) : FoundD S0 ((S ++ [Cell.cl []]).set S.length (.cl ([h].map tO))) (hsPut hs r h) (ks ++ [(r, S.length)]) := by
  have e : hs r = [] := Classical.byContradiction fun z => m ((D.mem r).mpr z)
  have ne : ∀ p ∈ ks, p.1 ≠ r := fun p hp z => m (List.mem_map.mpr ⟨p, hp, z⟩)
  refine ⟨by simp; have := D.len; omega, fun i hi => ?_, fun p hp => ?_, fun s => ?_, ?_, ?_⟩
  · have := D.len
    rw [List.getElem?_set_ne (by omega), List.getElem?_append_left (by omega)]
    exact D.old i hi
  · rcases List.mem_append.mp hp with hp | hp
    · have c := (D.cell p hp).2
      have := get_lt c
      refine ⟨(D.cell p hp).1, ?_⟩
      unfold hsPut
      rw [if_neg (ne p hp), List.getElem?_set_ne (by omega), List.getElem?_append_left this, c]
    · rw [List.mem_singleton.mp hp]
      refine ⟨D.len, ?_⟩
      unfold hsPut
      rw [if_pos rfl, e, List.getElem?_set_self (by simp)]
      rfl
  · unfold hsPut
    rw [List.map_append, List.mem_append, D.mem s]
    by_cases z : s = r
    · subst z
      rw [if_pos rfl]
      simp
    · rw [if_neg z]
      simp [z]
  · rw [List.map_append]
    refine List.nodup_append.mpr ⟨D.nd1, by simp, fun a ha b hb => ?_⟩
    rw [List.map_singleton, List.mem_singleton] at hb
    subst hb
    exact fun z => m (z ▸ ha)
  · rw [List.map_append]
    refine List.nodup_append.mpr ⟨D.nd2, by simp, fun a ha b hb => ?_⟩
    obtain ⟨p, hp, rfl⟩ := List.mem_map.mp ha
    have := get_lt (D.cell p hp).2
    rw [List.map_singleton, List.mem_singleton] at hb
    subst hb
    omega
abbrev stN (t : List Int) (bit : Int) (o2 o3 o4 o5 o6 : Option O) (S : List Cell) : Stt := ⟨[slU (tI t), slU (.int bit), o2, o3, o4, o5, o6], S, []⟩
theorem nd_turn {bit : Int} (D : FoundD S0 S hs ks) (hk : ks.length ≤ 1000000) (hh : (hs r).length ≤ 1000000) : ∃ ks' S', (sDo (up (lmt kAppend (rU (sdf (rN 2) (aCons (nm 4) (aCons (pm (lstF (aNil))) (aNil))))) (aCons (nm 3) (aNil))))) (stN t bit (some (.od (kvR ks))) (slU (tO h)) (slU (tI r)) o5 o6 S) = some (.nx, stN t bit (some (.od (kvR ks'))) (slU (tO h)) (slU (tI r)) o5 o6 S') ∧ FoundD S0 S' (hsPut hs r h) ks' ∧ ks'.length ≤ ks.length + 1 := by
  have sk : sdk (kvR ks) (tI r) = true := by
    unfold sdk
    rw [kvR_tup, kf_tI]
    simp [isTup, kvR]
    omega
  by_cases m : r ∈ ks.map (·.1)
  · obtain ⟨⟨r', l⟩, hm, rfl⟩ := List.mem_map.mp m
    have g := kvR_some D.nd1 hm
    have c := (D.cell _ hm).2
    have lt := get_lt c
    change (hs r').length ≤ 1000000 at hh
    change S[l]? = some (Cell.cl ((hs r').map tO)) at c
    change l < S.length at lt
    have c2 : (S ++ [Cell.cl []])[l]? = some (.cl ((hs r').map tO)) := by rw [List.getElem?_append_left lt, c]
    have lk : lineOk ((hs r').length + 1) = true := lineOk_of (by omega)
    refine ⟨ks, (S ++ [Cell.cl []]).set l (.cl ((hs r' ++ [h]).map tO)), ?_, D.old_row hm, by omega⟩
    generalize kvR ks = kvs at *
    generalize tI r' = dr at *
    generalize hd : tO h = dh at *
    simp [sdf, pm, hd, sk, g, c2, lk, lineOk_of (show 0 ≤ 16777216 by omega)]
  · have g := kvR_none m
    have lk : lineOk 1 = true := lineOk_of (by omega)
    have e : dput (kvR ks) (tI r) (.ref S.length) = kvR (ks ++ [(r, S.length)]) := by
      unfold dput
      rw [g]
      simp [kvR]
    refine ⟨ks ++ [(r, S.length)], (S ++ [Cell.cl []]).set S.length (.cl ([h].map tO)), ?_, D.new_row m, by simp⟩
    rw [← e]
    generalize kvR ks = kvs at *
    generalize tI r = dr at *
    generalize hd : tO h = dh at *
    simp [sdf, pm, hd, sk, g, lk, lineOk_of (show 0 ≤ 16777216 by omega)]

theorem nd_rows {bit : Int} {rs : List (List Int)} (nd : rs.Nodup) (D : FoundD S0 S hs ks) (hk : ks.length + rs.length ≤ 1000000) (hh : ∀ r, (hs r).length ≤ 1000000) :
    ∃ ks' S' o4', fLoop (onV (gN 4)) (sDo (up (lmt kAppend (rU (sdf (rN 2) (aCons (nm 4) (aCons (pm (lstF (aNil))) (aNil))))) (aCons (nm 3) (aNil))))) (rs.map fun r => Itm.v (.v (tI r))) (stN t bit (some (.od (kvR ks))) (slU (tO h)) o4 o5 o6 S) = some (.nx, stN t bit (some (.od (kvR ks'))) (slU (tO h)) o4' o5 o6 S') ∧ FoundD S0 S' (fun s => if s ∈ rs then hs s ++ [h] else hs s) ks' ∧ ks'.length ≤ ks.length + rs.length := by
  obtain ⟨st', e, ks', S', o4', rfl, D', l'⟩ := loopI (α := List Int) (b := (sDo (up (lmt kAppend (rU (sdf (rN 2) (aCons (nm 4) (aCons (pm (lstF (aNil))) (aNil))))) (aCons (nm 3) (aNil)))))) (fun r => .v (.v (tI r))) (fun pre st => ∃ ks' S' o4', st = stN t bit (some (.od (kvR ks'))) (slU (tO h)) o4' o5 o6 S' ∧ FoundD S0 S' (fun s => if s ∈ pre then hs s ++ [h] else hs s) ks' ∧ ks'.length ≤ ks.length + pre.length) (g := onV (gN 4)) rs (stN t bit (some (.od (kvR ks))) (slU (tO h)) o4 o5 o6 S) ⟨ks, S, o4, rfl, by simpa using D, by simp⟩ (by
    rintro pre r post st e ⟨ks', S', o4', rfl, D', l'⟩
    have l1 := pre_le e
    have nr : r ∉ pre := fun z => by
      rw [e, List.nodup_append] at nd
      exact nd.2.2 r z r List.mem_cons_self rfl
    obtain ⟨k2, S2, e2, D2, l2⟩ := nd_turn (t := t) (bit := bit) (r := r) (h := h) (o5 := o5) (o6 := o6) D' (by omega) (by
      rw [if_neg nr]
      exact hh r)
    refine ⟨_, _, rfl, .inl e2, k2, S2, _, rfl, ?_, by rw [List.length_append, List.length_singleton]; omega⟩
    have ef : hsPut (fun s => if s ∈ pre then hs s ++ [h] else hs s) r h = fun s => if s ∈ pre ++ [r] then hs s ++ [h] else hs s := by
      funext s
      show (if s = r then (if s ∈ pre then hs s ++ [h] else hs s) ++ [h] else if s ∈ pre then hs s ++ [h] else hs s) = _
      by_cases z : s = r
      · subst z
        rw [if_pos rfl, if_neg nr, if_pos (by simp)]
      · rw [if_neg z]
        by_cases y : s ∈ pre
        · rw [if_pos y, if_pos (List.mem_append.mpr (.inl y))]
        · rw [if_neg y, if_neg fun q => (List.mem_append.mp q).elim y fun q => z (List.mem_singleton.mp q)]
    rw [← ef]
    exact D2)
  exact ⟨ks', S', o4', e, D', l'⟩
/-- the first walk of the program -/
theorem nd_all {bit : Int} {ps : HalfL} (hp : ∀ h ∈ ps, Half h ∧ h.length ≤ 9) (hl : ps.length ≤ 1000) (S0 : List Cell) :
    ∃ ks S o3' o4', fLoop (onV (gN 3)) (sFor (vals (fz (cal 1 F_rows_filling (aCons (nm 3) (aNil))))) (onV (gN 4)) (sDo (up (lmt kAppend (rU (sdf (rN 2) (aCons (nm 4) (aCons (pm (lstF (aNil))) (aNil))))) (aCons (nm 3) (aNil)))))) (ps.map fun h => Itm.v (.v (tO h))) (stN t bit (some (.od [])) o3 o4 o5 o6 S0) = some (.nx, stN t bit (some (.od (kvR ks))) o3' o4' o5 o6 S) ∧ FoundD S0 S (fun s => ps.filter fun h => decide (s ∈ fillsL h)) ks ∧ ks.length ≤ 512 * ps.length := by
  obtain ⟨st', e, ks', S', o3', o4', rfl, D', l'⟩ := loopI (α := List (Option Int)) (b := (sFor (vals (fz (cal 1 F_rows_filling (aCons (nm 3) (aNil))))) (onV (gN 4)) (sDo (up (lmt kAppend (rU (sdf (rN 2) (aCons (nm 4) (aCons (pm (lstF (aNil))) (aNil))))) (aCons (nm 3) (aNil))))))) (fun h => .v (.v (tO h))) (fun pre st => ∃ ks' S' o3' o4', st = stN t bit (some (.od (kvR ks'))) o3' o4' o5 o6 S' ∧ FoundD S0 S' (fun s => pre.filter fun h => decide (s ∈ fillsL h)) ks' ∧ ks'.length ≤ 512 * pre.length) (g := onV (gN 3)) ps (stN t bit (some (.od [])) o3 o4 o5 o6 S0) ⟨[], S0, o3, o4, rfl, ⟨Nat.le_refl _, fun _ _ => rfl, (fun _ z => nomatch z), fun r => by simp, by simp, by simp⟩, by simp⟩ (by
    rintro pre h post st e ⟨ks', S', o3', o4', rfl, D', l'⟩
    have l1 := pre_le e
    have mem : h ∈ ps := by rw [e]; simp
    obtain ⟨hh, h9⟩ := hp h mem
    obtain ⟨rs, er, pm⟩ := rows_filling hh h9 S'
    have few : rs.length ≤ 2 ^ 9 := by rw [pm.length_eq]; exact Nat.le_trans (fills_few h) (two_pow_le h9)
    obtain ⟨k2, S2, p4, e2, D2, l2⟩ := nd_rows (t := t) (bit := bit) (h := h) (o4 := o4') (o5 := o5) (o6 := o6) (pm.nodup_iff.mpr (fills_nodup hh)) D' (by omega) (fun r => Nat.le_trans (List.length_filter_le _ _) (by omega))
    refine ⟨stN t bit (some (.od (kvR ks'))) (slU (tO h)) o4' o5 o6 S', stN t bit (some (.od (kvR k2))) (slU (tO h)) p4 o5 o6 S2, rfl, .inl ?_, k2, S2, _, _, rfl, ?_, by rw [List.length_append, List.length_singleton]; omega⟩
    · have ev : vals (fz (cal 1 F_rows_filling (aCons (nm 3) (aNil)))) (stN t bit (some (.od (kvR ks'))) (slU (tO h)) o4' o5 o6 S') = some (rs.map (fun r => Itm.v (.v (tI r))), stN t bit (some (.od (kvR ks'))) (slU (tO h)) o4' o5 o6 S') := by
        simp [er, Function.comp_def]
      rw [q_for, ev, Option.bind_some]
      exact e2
    · have ef : (fun s => (pre ++ [h]).filter fun h => decide (s ∈ fillsL h)) = fun s => if s ∈ rs then (pre.filter fun h => decide (s ∈ fillsL h)) ++ [h] else pre.filter fun h => decide (s ∈ fillsL h) := by
        funext s
        rw [List.filter_append]
        by_cases z : s ∈ rs
        · rw [if_pos z]
          simp [pm.mem_iff.mp z]
        · rw [if_neg z]
          have : s ∉ fillsL h := fun q => z (pm.mem_iff.mpr q)
          simp [this]
      rw [ef]
      exact D2)
  exact ⟨ks', S', o3', o4', e, D', l'⟩
end
end Sp

namespace Sp
open PySem L2 MP Sh

/-! ## [e for x in xs if t], the items any values -/
theorem lcU {α : Type} (enc : α → U) (out : α → PyData) (p : α → Bool) (xs : List α) {st : Stt} {r0 : List (Option O)} {S : List Cell} {h : List O} {i : Nat} {f : EvI} {t : EvT} {e : EvU} (hf : f st = some (xs.map fun x => .v (enc x), ⟨r0, S, h⟩)) (hi : i < r0.length)
    (ht : ∀ x ∈ xs, ∀ h, t ⟨r0.set i (some (.u (enc x))), S, h⟩ = some (p x, ⟨r0.set i (some (.u (enc x))), S, h⟩)) (he : ∀ x ∈ xs, p x = true → ∀ h, e ⟨r0.set i (some (.u (enc x))), S, h⟩ = some (.v (out x), ⟨r0.set i (some (.u (enc x))), S, h⟩)) (hl : xs.length ≤ 16777215) :
    lc f (onV (gN i)) t e [i] st = some (.ol ((xs.filter p).map out), ⟨r0.set i (keepU r0[i]?), S, h⟩) := by
  have := lc_typed (vs := [i]) (rw := r0.set i none) (fun x => Itm.v (enc x)) out p xs (g := onV (gN i)) (t := t) (e := e) hf rfl (fun x hx acc ha => ?_) hl
  · rw [this]
    show some (_, (⟨(r0.set i none).set i (keepU r0[i]?), S, h⟩ : Stt)) = _
    rw [List.set_set]
  · unfold lcTurn
    rw [q_onV, q_gN, if_pos (by simpa using hi), Option.bind_some, List.set_set, ht x hx, Option.bind_some]
    cases hp : p x with
    | false =>
      simp only [Bool.false_eq_true, if_false, List.append_nil]
      unfold wipeS wipeR
      simp [wipeR]
    | true =>
      simp only [if_true]
      rw [he x hx hp, Option.bind_some, q_pushH ha]
      unfold wipeS
      simp [wipeR]
/-! ## a dict of halves, all true -/
def kvT (xs : HalfL) : List (PyData × U) := xs.map fun h => (tO h, .v (.bool true))
theorem kvT_get (h : List (Option Int)) : ∀ xs : HalfL, dget (kvT xs) (tO h) = if h ∈ xs then some (.v (.bool true)) else none
  | [] => rfl
  | x :: xs => by
    show dget ((tO x, _) :: kvT xs) (tO h) = _
    rw [dget_cons, kvT_get h xs]
    by_cases c : h = x
    · subst c
      rw [if_pos rfl, if_pos List.mem_cons_self]
    · rw [if_neg fun z => c (kf_tO_inj z).symm]
      by_cases d : h ∈ xs
      · rw [if_pos d, if_pos (List.mem_cons_of_mem _ d)]
      · rw [if_neg d, if_neg fun z => (List.mem_cons.mp z).elim c d]
theorem kvT_put (ys : HalfL) (h : List (Option Int)) : dput (kvT ys) (tO h) (.v (.bool true)) = kvT (if h ∈ ys then ys else ys ++ [h]) := by
  unfold dput
  rw [kvT_get]
  by_cases c : h ∈ ys
  · rw [if_pos c, if_pos c]
    show List.map _ (kvT ys) = _
    unfold kvT
    rw [List.map_map]
    refine List.map_congr_left fun x _ => ?_
    show (if sameK (tO h) (tO x, U.v (.bool true)) then _ else _) = _
    split <;> rfl
  · rw [if_neg c, if_neg c]
    simp [kvT]
theorem putAll_halves (xs : HalfL) : ∃ ys : HalfL, putAll (kvT xs) = kvT ys ∧ ys.Nodup ∧ (∀ h, h ∈ ys ↔ h ∈ xs) ∧ ys.length ≤ xs.length := by
  have go : ∀ (xs ys : HalfL), ys.Nodup → ∃ zs : HalfL, (kvT xs).foldl (fun d p => dput d p.1 p.2) (kvT ys) = kvT zs ∧ zs.Nodup ∧ (∀ h, h ∈ zs ↔ h ∈ ys ∨ h ∈ xs) ∧ zs.length ≤ ys.length + xs.length := by
    intro xs
    induction xs with
    | nil => exact fun ys nd => ⟨ys, rfl, nd, fun h => by simp, by simp⟩
    | cons x xs ih =>
      intro ys nd
      obtain ⟨zs, e, n2, m, l⟩ := ih (if x ∈ ys then ys else ys ++ [x]) (by
        split
        · exact nd
        · rename_i c
          refine List.nodup_append.mpr ⟨nd, by simp, fun a ha b hb => ?_⟩
          rw [List.mem_singleton] at hb
          subst hb
          exact fun z => c (z ▸ ha))
      refine ⟨zs, ?_, n2, fun h => ?_, ?_⟩
      · show (kvT xs).foldl _ (dput (kvT ys) (tO x) (.v (.bool true))) = _
        rw [kvT_put, e]
      · rw [m, List.mem_cons]
        split
        · rename_i c
          constructor
          · rintro (q | q)
            · exact .inl q
            · exact .inr (.inr q)
          · rintro (q | rfl | q)
            · exact .inl q
            · exact .inl c
            · exact .inr q
        · simp [or_assoc]
      · have : (if x ∈ ys then ys else ys ++ [x]).length ≤ ys.length + 1 := by split <;> simp
        rw [List.length_cons]
        omega
  obtain ⟨zs, e, nd, m, l⟩ := go xs [] (by simp)
  exact ⟨zs, e, nd, fun h => by rw [m]; simp, by simpa using l⟩
/-! ## which are needed -/
theorem count_nums {n : Nat} {ps : HalfL} (hp : ∀ h ∈ ps, Half h ∧ h.length = n) {r : List Int} (hr : r.length = n) (hb : Bits r) : (ps.flatMap numsL).count (num r) = (ps.filter fun h => decide (r ∈ fillsL h)).length := by
  induction ps with
  | nil => rfl
  | cons h ps ih =>
    obtain ⟨hh, hl⟩ := hp h List.mem_cons_self
    obtain ⟨nd, mem⟩ := nums_mem n hl hh
    rw [List.flatMap_cons, List.count_append, ih fun g hg => hp g (List.mem_cons_of_mem _ hg), nd.count]
    have e : num r ∈ numsL h ↔ r ∈ fillsL h := by
      rw [mem, mem_fills hh]
      constructor
      · rintro ⟨r', f, e⟩
        rw [← num_inj (f.1.trans hl) hr f.2.1 hb e]
        exact f
      · exact fun f => ⟨r, f, rfl⟩
    by_cases c : r ∈ fillsL h
    · rw [if_pos (e.mpr c), List.filter_cons_of_pos (by simpa using c), List.length_cons, Nat.add_comm]
    · rw [if_neg fun z => c (e.mp z), List.filter_cons_of_neg (by simpa using c), Nat.zero_add]
theorem need_iff {n : Nat} {ps : HalfL} (hp : ∀ h ∈ ps, Half h ∧ h.length = n) {h : List (Option Int)} (mem : h ∈ ps) : needB ps h = true ↔ ∃ r, (ps.filter fun g => decide (r ∈ fillsL g)) = [h] := by
  obtain ⟨hh, hl⟩ := hp h mem
  obtain ⟨nd, nm⟩ := nums_mem n hl hh
  unfold needB
  rw [List.any_eq_true]
  constructor
  · rintro ⟨m, hm, c⟩
    obtain ⟨r, f, rfl⟩ := (nm m).mp hm
    rw [count_nums hp (f.1.trans hl) f.2.1, beq_iff_eq] at c
    obtain ⟨g, e⟩ := List.length_eq_one_iff.mp c
    have : h ∈ ps.filter fun g => decide (r ∈ fillsL g) := List.mem_filter.mpr ⟨mem, by simpa using (mem_fills hh).mpr f⟩
    rw [e, List.mem_singleton] at this
    subst this
    exact ⟨r, e⟩
  · rintro ⟨r, e⟩
    have : h ∈ ps.filter fun g => decide (r ∈ fillsL g) := by rw [e]; exact List.mem_singleton_self h
    have f := (mem_fills hh).mp (by simpa using (List.mem_filter.mp this).2)
    refine ⟨num r, (nm _).mpr ⟨r, f, rfl⟩, ?_⟩
    rw [count_nums hp (f.1.trans hl) f.2.1, e]
    rfl
def textLe (a b : List (Option Int)) : Bool := !PySem.W.dataLt (.str (textOf b)) (.str (textOf a))
theorem textLe_code {a b : List (Option Int)} (ha : Half a) (hb : Half b) (e : a.length = b.length) : textLe a b = decide (code a ≤ code b) := by
  unfold textLe
  rw [PySem.W.dataLt_str, text_cps ha, text_cps hb]
  have := text_order hb ha e.symm
  by_cases c : code a ≤ code b
  · rw [decide_eq_true c, decide_eq_false fun z => absurd (this.mp z) (by omega)]
    rfl
  · rw [decide_eq_false c, decide_eq_true (this.mpr (by omega))]
    rfl
theorem sorted_halves {n : Nat} {xs ys : HalfL} (hx : ∀ h ∈ xs, Half h ∧ h.length = n) (nd : xs.Nodup) (up : ys.Pairwise fun a b => code a < code b) (mem : ∀ h, h ∈ xs ↔ h ∈ ys) : xs.mergeSort textLe = ys := by
  have e : xs.mergeSort textLe = xs.mergeSort fun a b => decide (code a ≤ code b) := by
    have := List.map_mergeSort (l := xs) (r := textLe) (s := fun a b => decide (code a ≤ code b)) (f := id) fun a ha b hb => textLe_code (hx a ha).1 (hx b hb).1 ((hx a ha).2.trans (hx b hb).2.symm)
    simpa using this
  rw [e]
  have pw := List.pairwise_mergeSort (le := fun a b : List (Option Int) => decide (code a ≤ code b)) (fun a b c h1 h2 => by simp only [decide_eq_true_eq] at *; omega) (fun a b => by simp only [Bool.or_eq_true, decide_eq_true_eq]; omega) xs
  have pm : (xs.mergeSort fun a b => decide (code a ≤ code b)).Perm ys := by
    refine (List.mergeSort_perm _ _).trans ?_
    refine (List.perm_ext_iff_of_nodup nd ?_).mpr mem
    exact up.imp fun {a b} q z => by rw [z] at q; omega
  refine List.Perm.eq_of_pairwise (le := fun a b => code a ≤ code b) (fun a b ha hb h1 h2 => ?_) (pw.imp fun h => by simpa using h) (up.imp fun h => by omega) pm
  obtain ⟨p1, p2⟩ := hx a ((List.mergeSort_perm _ _).mem_iff.mp ha)
  obtain ⟨q1, q2⟩ := hx b ((mem b).mpr hb)
  exact code_inj p1 q1 (p2.trans q2.symm) (by omega)
section
variable {S0 S : List Cell} {hs : List Int → HalfL} {ks : List (List Int × Nat)} {r : List Int} {h : List (Option Int)} {o0 o1 o2 o3 o4 o5 o6 : Option O} {n : Nat} {t : List Int}
def hdH : HalfL → List (Option Int)
  | [] => []
  | h :: _ => h
def kvW (ks : List (List Int × Nat)) : List (PyData × Wv) := ks.map fun p => (tI p.1, .ref p.2)
theorem wvs_R : ∀ ks : List (List Int × Nat), wvs (kvR ks) = some (kvW ks)
  | [] => rfl
  | p :: ks => by
    show (wvs (kvR ks)).map _ = _
    rw [wvs_R ks]
    rfl
theorem nd_alone {bit : Int} (D : FoundD S0 S hs ks) (hk : ks.length ≤ 1000000) : ∃ ys : HalfL, (sSet 5 (b1 kDictP (rU (fz (lc (vlsF (nmF 2)) (onV (gN 6)) (tst (eqR false (rU (fz (b1 kLen (rN 6)))) (rU (kst (.int 1))))) (tupF (aCons (idx (rN 6) (kst (.int 0))) (aCons (kst (.bool true)) (aNil)))) [6]))))) (stN t bit (some (.od (kvR ks))) o3 o4 o5 none S) = some (.nx, stN t bit (some (.u (.fd (kvW ks)))) o3 o4 (some (.od (kvT ys))) none S) ∧ ys.Nodup ∧ (∀ h, h ∈ ys ↔ ∃ r, hs r = [h]) ∧ ys.length ≤ ks.length := by
  obtain ⟨ys, ep, nd, mem, ly⟩ := putAll_halves ((ks.filter fun p => (hs p.1).length == 1).map fun p => hdH (hs p.1))
  have hl : ((ks.filter fun p => (hs p.1).length == 1).map fun p => hdH (hs p.1)).length ≤ ks.length := by rw [List.length_map]; exact List.length_filter_le _ _
  have el := lcU (i := 6) (st := stN t bit (some (.od (kvR ks))) o3 o4 o5 none S) (r0 := [slU (tI t), slU (.int bit), some (.u (.fd (kvW ks))), o3, o4, o5, none]) (S := S) (h := []) (f := vlsF (nmF 2)) (t := (tst (eqR false (rU (fz (b1 kLen (rN 6)))) (rU (kst (.int 1)))))) (e := (tupF (aCons (idx (rN 6) (kst (.int 0))) (aCons (kst (.bool true)) (aNil))))) (fun p : List Int × Nat => .ref p.2) (fun p => .tuple [tO (hdH (hs p.1)), .bool true]) (fun p => (hs p.1).length == 1) ks (by
    simp [vlsF, nmF, wvs_R, kvW, Wv.u, Function.comp_def]) (by simp) (fun p hp hd => by
    have c := (D.cell p hp).2
    have q : (((hs p.1).length : Int) == 1) = ((hs p.1).length == 1) := by
      by_cases z : (hs p.1).length = 1
      · rw [z]; rfl
      · rw [beq_eq_false_iff_ne.mpr z, beq_eq_false_iff_ne.mpr (by omega)]
    generalize hs p.1 = x at *
    simp [c, q]) (fun p hp h1 hd => by
    have c := (D.cell p hp).2
    obtain ⟨g, e⟩ := List.length_eq_one_iff.mp (beq_iff_eq.mp h1)
    rw [e] at c ⊢
    have a0 : atI [tO g] 0 = some (tO g) := rfl
    simp [c, a0, hdH, lineOk_of (show 2 ≤ 16777216 by omega)]) (by omega)
  have pd : pairsD ((ks.filter fun p => (hs p.1).length == 1).map fun p => PyData.tuple [tO (hdH (hs p.1)), .bool true]) = some (kvT ((ks.filter fun p => (hs p.1).length == 1).map fun p => hdH (hs p.1))) := by
    generalize (ks.filter fun p => (hs p.1).length == 1) = zs
    induction zs with
    | nil => rfl
    | cons p zs ih =>
      show (pairsD (zs.map _)).map _ = _
      rw [ih]
      rfl
  have kd : kDictP (.l ((ks.filter fun p => (hs p.1).length == 1).map fun p => PyData.tuple [tO (hdH (hs p.1)), .bool true])) = some (.od (kvT ys)) := by
    show (pairsD _).bind _ = _
    rw [pd, Option.bind_some]
    generalize ((ks.filter fun p => (hs p.1).length == 1).map fun p => hdH (hs p.1)) = zs at *
    cases zs with
    | nil =>
      have : ys = [] := List.eq_nil_iff_forall_not_mem.mpr fun h z => by have := (mem h).mp z; cases this
      subst this
      rfl
    | cons z zs =>
      rw [if_neg (by simp [kvT]), if_pos, ep]
      rw [Bool.and_eq_true]
      refine ⟨?_, lineOk_of (by rw [kvT, List.length_map]; omega)⟩
      rw [List.all_eq_true]
      intro p hp
      obtain ⟨g, hg, rfl⟩ := List.mem_map.mp hp
      show (isTup (tO g) && (kf (tO g)).isSome) = true
      rw [kf_tO]
      rfl
  refine ⟨ys, ?_, nd, fun h => ?_, by omega⟩
  · generalize hk : (lc (vlsF (nmF 2)) (onV (gN 6)) (tst (eqR false (rU (fz (b1 kLen (rN 6)))) (rU (kst (.int 1))))) (tupF (aCons (idx (rN 6) (kst (.int 0))) (aCons (kst (.bool true)) (aNil)))) [6]) = kx at el ⊢
    simp [el, kd, keepU]
  · rw [mem, List.mem_map]
    constructor
    · rintro ⟨p, hp, rfl⟩
      obtain ⟨g, e⟩ := List.length_eq_one_iff.mp (beq_iff_eq.mp (List.mem_filter.mp hp).2)
      exact ⟨p.1, by rw [e]; rfl⟩
    · rintro ⟨r, e⟩
      have := (D.mem r).mpr (by rw [e]; exact fun z => nomatch z)
      obtain ⟨p, hp, rfl⟩ := List.mem_map.mp this
      exact ⟨p, List.mem_filter.mpr ⟨hp, by rw [e]; rfl⟩, by rw [e]; rfl⟩
noncomputable def needL (t : List Int) (bit : Int) (n : Nat) : HalfL := (primesL t bit n).filter (needB (primesL t bit n))
theorem needed {bit : Int} (ht : t.length = 2 ^ n) (h1 : 1 ≤ n) (hn : n ≤ 6) (S : List Cell) : ∃ S', F_needed [.v (tI t), .v (.int bit)] S = some (.u (.v (.tuple ((needL t bit n).map tO))), S') ∧ S.length ≤ S'.length ∧ ∀ i, i < S.length → S'[i]? = S[i]? := by
  have ep := primes (bit := bit) ht h1 (by omega) S
  have l3 : (3 : Nat) ^ 6 = 729 := by decide
  have lp : (primesL t bit n).length ≤ 729 := by
    refine Nat.le_trans (List.length_filter_le _ _) ?_
    rw [halves_len]
    exact Nat.le_trans (Nat.pow_le_pow_right (by omega) hn) (by omega)
  have hp : ∀ h ∈ primesL t bit n, Half h ∧ h.length = n := fun h hh => ⟨(halves_mem n h (List.mem_filter.mp hh).1).2, (halves_mem n h (List.mem_filter.mp hh).1).1⟩
  obtain ⟨ks, S1, o3, o4, e1, D, lk⟩ := nd_all (t := t) (bit := bit) (o3 := none) (o4 := none) (o5 := none) (o6 := none) (ps := primesL t bit n) (fun h hh => ⟨(hp h hh).1, by rw [(hp h hh).2]; omega⟩) (by omega) S
  obtain ⟨ys, e2, nd, mem, ly⟩ := nd_alone (t := t) (bit := bit) (o3 := o3) (o4 := o4) (o5 := none) D (by omega)
  have hy : ∀ h ∈ ys, h ∈ primesL t bit n := fun h hh => by
    obtain ⟨r, e⟩ := (mem h).mp hh
    have : h ∈ (primesL t bit n).filter fun g => decide (r ∈ fillsL g) := by rw [e]; exact List.mem_singleton_self h
    exact (List.mem_filter.mp this).1
  have srt := sorted_halves (n := n) (xs := ys) (ys := needL t bit n) (fun h hh => hp h (hy h hh)) nd (((halves_up n).filter _).filter _) (fun h => by
    unfold needL
    rw [List.mem_filter]
    constructor
    · intro z
      exact ⟨hy h z, (need_iff hp (hy h z)).mpr ((mem h).mp z)⟩
    · rintro ⟨a, b⟩
      exact (mem h).mpr ((need_iff hp a).mp b))
  refine ⟨S1, ?_, D.len, D.old⟩
  have ef : srtBy F_half_text (rN 5) (stN t bit (some (.u (.fd (kvW ks)))) o3 o4 (some (.od (kvT ys))) none S1) = some (.ol ((ys.mergeSort textLe).map tO), stN t bit (some (.u (.fd (kvW ks)))) o3 o4 (some (.od (kvT ys))) none S1) :=
    srtBy_d (enc := tO) (key := fun h => .str (textOf h)) (le := textLe) (xs := ys) (kvs := kvT ys) rfl rfl (by simp [kvT, Function.comp_def]) (fun h hh => half_text (hp h (hy h hh)).1 (by rw [(hp h (hy h hh)).2]; omega) S1) (fun _ _ => rfl) (by
      unfold alikeB
      rw [List.all_eq_true]
      intro d hd
      rw [List.all_eq_true]
      intro d' hd'
      obtain ⟨_, _, rfl⟩ := List.mem_map.mp hd
      obtain ⟨_, _, rfl⟩ := List.mem_map.mp hd'
      rfl) (fun _ _ _ _ => rfl)
  rw [srt] at ef
  refine run_ret [slU (tI t), slU (.int bit), none, none, none, none, none] rfl ?_
  have e1 : fLoop (onV (gN 3)) _ ((primesL t bit n).map fun x => Itm.v (.v (tO x))) _ = _ := e1
  unfold B_needed
  rw [seq_nx (st1 := stN t bit (some (.od [])) none none none none S) (by simp)]
  have ev : vals (fz (cal 2 F_primes (aCons (nm 0) (aCons (nm 1) (aNil))))) (stN t bit (some (.od [])) none none none none S) = some ((primesL t bit n).map (fun x => Itm.v (.v (tO x))), stN t bit (some (.od [])) none none none none S) := by
    simp [ep, Function.comp_def]
  rw [seq_nx (by rw [q_for, ev, Option.bind_some]; exact e1)]
  rw [seq_nx e2]
  generalize hk : srtBy F_half_text (rN 5) = kx at ef ⊢
  simp [ef, kTuple]
end
end Sp

namespace Sp
open PySem L2 MP Sh

/-! ## the law of primes -/
/-- the cells that stood, stand -/
structure Ext (S S' : List Cell) : Prop where
  len : S.length ≤ S'.length
  old : ∀ i, i < S.length → S'[i]? = S[i]?
theorem Ext.refl (S : List Cell) : Ext S S := ⟨Nat.le_refl _, fun _ _ => rfl⟩
theorem Ext.trans {A B C : List Cell} (h : Ext A B) (k : Ext B C) : Ext A C := ⟨Nat.le_trans h.len k.len, fun i hi => (k.old i (Nat.lt_of_lt_of_le hi h.len)).trans (h.old i hi)⟩
theorem Ext.app (S : List Cell) (c : Cell) : Ext S (S ++ [c]) := ⟨by simp, fun i hi => List.getElem?_append_left hi⟩
theorem Ext.at_ {S S' : List Cell} (h : Ext S S') {l : Nat} {c : Cell} (e : S[l]? = some c) : S'[l]? = some c := (h.old l (get_lt e)).trans e
theorem Mill.ext {S S' : List Cell} {l d : Nat} (M : Mill S l d) (h : Ext S S') : Mill S' l d := by
  obtain ⟨ne, deep, sl, turn, a, b, p, q⟩ := M
  exact ⟨ne, deep, sl, turn, h.at_ a, h.at_ b, p, q⟩
theorem tame_half {h : List (Option Int)} (hh : Half h) : Tame 1 (h.length * 42) (tO h) := by
  refine tame_tuple (n := 0) (W := 41) (fun d hd => ?_) (by rw [List.length_map]; omega)
  obtain ⟨x, hx, rfl⟩ := List.mem_map.mp hd
  rcases hh x hx with rfl | rfl | rfl
  · exact tame_none
  · exact tame_int (by decide) (Nat.le_refl _)
  · exact tame_int (by decide) (Nat.le_refl _)
theorem tame_halves {n m : Nat} {ps : HalfL} (hp : ∀ h ∈ ps, Half h ∧ h.length = n) (hl : ps.length ≤ m) : Tame 2 (m * (n * 42 + 1)) (.tuple (ps.map tO)) := by
  refine tame_tuple (n := 1) (W := n * 42) (fun d hd => ?_) (by rw [List.length_map]; exact Nat.mul_le_mul_right _ hl)
  obtain ⟨h, hh, rfl⟩ := List.mem_map.mp hd
  have := tame_half (hp h hh).1
  rw [(hp h hh).2] at this
  exact this
section
variable {t : List Int} {S : List Cell} {l n : Nat} {kvs : List (PyData × U)}
theorem primes_half {bit : Int} : ∀ h ∈ primesL t bit n, Half h ∧ h.length = n := fun h hh => ⟨(halves_mem n h (List.mem_filter.mp hh).1).2, (halves_mem n h (List.mem_filter.mp hh).1).1⟩
theorem primes_few {bit : Int} (hn : n ≤ 6) : (primesL t bit n).length ≤ 729 := by
  have l3 : (3 : Nat) ^ 6 = 729 := by decide
  refine Nat.le_trans (List.length_filter_le _ _) ?_
  rw [halves_len]
  exact Nat.le_trans (Nat.pow_le_pow_right (by omega) hn) (by omega)
abbrev stP (t : PyData) (l : Nat) (b : Bool) (o3 o4 o5 : Option O) (S : List Cell) : Stt := ⟨[slU t, some (.u (.ref l)), slU (.bool b), o3, o4, o5], S, []⟩
theorem pr_right {bit : Int} {b : Bool} {o4 o5 : Option O} (h1 : 1 ≤ n) (hn : n ≤ 6) (ht : t.length = 2 ^ n) (D : SureE t n kvs) (hc : S[l]? = some (.cd kvs)) :
    ∃ o4' o5' S', (seq (sSet 4 (b1 kTuple (rU (fz (cal 3 F__law_primes (aCons (nm 0) (aCons (nm 3) (aCons (nm 1) (aNil))))))))) (seq (sSet 5 (lstF (aCons (fz (cal 2 F_primes (aCons (nm 0) (aCons (nm 3) (aNil))))) (aCons (fz (cal 2 F_needed (aCons (nm 0) (aCons (nm 3) (aNil))))) (aNil))))) (seq (sIf (tru (nm 2)) (sSet 5 (lstF (aCons (fz (cal 2 F_primes (ord o_primes_0_bit_table (aNil) (aCons (nm 3) (aCons (nm 0) (aNil)))))) (aCons (fz (cal 2 F_needed (ord o_needed_0_bit_table (aNil) (aCons (nm 3) (aCons (nm 0) (aNil)))))) (aNil))))) (sNil)) (sIf (notT (tru (fz (cal 2 F__law_same (aCons (nm 5) (aCons (fz (lstF (aCons (nm 4) (aCons (fz (cal 1 F__law_needed (aCons (nm 4) (aNil)))) (aNil))))) (aNil))))))) (sRet (up (kst (.bool false)))) (sNil))))) (stP (tI t) l b (slU (.int bit)) o4 o5 S) = some (.nx, stP (tI t) l b (slU (.int bit)) o4' o5' S') ∧ Ext S S' := by
  have e1 := law_primes (bit := bit) D hc ht (by omega)
  have e2 := primes (bit := bit) ht h1 (by omega) S
  obtain ⟨S1, e3, x1, x2⟩ := needed (bit := bit) ht h1 hn S
  have E1 : Ext S S1 := ⟨x1, x2⟩
  have e4 := primes (bit := bit) ht h1 (by omega) S1
  obtain ⟨S2, e5, y1, y2⟩ := needed (bit := bit) ht h1 hn S1
  have E2 : Ext S1 S2 := ⟨y1, y2⟩
  have few := primes_few (t := t) (bit := bit) (n := n) hn
  have hp := primes_half (t := t) (bit := bit) (n := n)
  have ln := fun S => law_needed (ps := primesL t bit n) (fun h hh => ⟨(hp h hh).1, by rw [(hp h hh).2]; omega⟩) (by omega) S
  have ln : ∀ S, F__law_needed [.v (.tuple ((primesL t bit n).map tO))] S = some (.u (.v (.tuple ((needL t bit n).map tO))), S) := ln
  have tp := tame_halves hp few
  have tn := tame_halves (ps := needL t bit n) (fun h hh => hp h (List.mem_filter.mp hh).1) (Nat.le_trans (List.length_filter_le _ _) few)
  generalize (primesL t bit n).map tO = p at *
  generalize (needL t bit n).map tO = q at *
  have tm : Tame 3 (2 * (729 * (n * 42 + 1) + 1)) (.list [.tuple p, .tuple q]) := tame_list (n := 2) (fun d hd => by
    simp only [List.mem_cons, List.not_mem_nil, or_false] at hd
    rcases hd with rfl | rfl
    · exact tp
    · exact tn) (by simp)
  have ls := fun S => law_same tm (by decide) (by omega) S
  have k2 : lineOk 2 = true := lineOk_of (by omega)
  generalize tI t = dt at *
  refine ⟨slU (.tuple p), slU (.list [.tuple p, .tuple q]), if b then S2 else S1, ?_, by cases b; exact E1; exact E1.trans E2⟩
  rw [seq_nx (st1 := stP dt l b (slU (.int bit)) (slU (.tuple p)) o5 S) (by simp [e1, kTuple])]
  rw [seq_nx (st1 := stP dt l b (slU (.int bit)) (slU (.tuple p)) (some (.ol [.tuple p, .tuple q])) S1) (by simp [e2, e3, k2])]
  rw [seq_nx (st1 := stP dt l b (slU (.int bit)) (slU (.tuple p)) (some (.ol [.tuple p, .tuple q])) (if b then S2 else S1)) (by cases b <;> simp [e4, e5, k2, o_primes_0_bit_table, o_needed_0_bit_table])]
  have ls := ls (if b then S2 else S1)
  have ln := ln (if b then S2 else S1)
  generalize (if b then S2 else S1) = S3 at *
  simp [ls, ln, k2]
theorem law_are_primes_right {b : Bool} (h1 : 1 ≤ n) (hn : n ≤ 6) (ht : t.length = 2 ^ n) (D : SureE t n kvs) (hc : S[l]? = some (.cd kvs)) :
    ∃ S', F__law_are_primes_right [.v (tI t), .ref l, .v (.bool b)] S = some (.u (.v (.bool true)), S') ∧ Ext S S' := by
  obtain ⟨st', e, o3, o4, o5, S', rfl, E⟩ := loopI (α := Int) (b := (seq (sSet 4 (b1 kTuple (rU (fz (cal 3 F__law_primes (aCons (nm 0) (aCons (nm 3) (aCons (nm 1) (aNil))))))))) (seq (sSet 5 (lstF (aCons (fz (cal 2 F_primes (aCons (nm 0) (aCons (nm 3) (aNil))))) (aCons (fz (cal 2 F_needed (aCons (nm 0) (aCons (nm 3) (aNil))))) (aNil))))) (seq (sIf (tru (nm 2)) (sSet 5 (lstF (aCons (fz (cal 2 F_primes (ord o_primes_0_bit_table (aNil) (aCons (nm 3) (aCons (nm 0) (aNil)))))) (aCons (fz (cal 2 F_needed (ord o_needed_0_bit_table (aNil) (aCons (nm 3) (aCons (nm 0) (aNil)))))) (aNil))))) (sNil)) (sIf (notT (tru (fz (cal 2 F__law_same (aCons (nm 5) (aCons (fz (lstF (aCons (nm 4) (aCons (fz (cal 1 F__law_needed (aCons (nm 4) (aNil)))) (aNil))))) (aNil))))))) (sRet (up (kst (.bool false)))) (sNil)))))) (fun m => .v (.v (.int m))) (fun pre st => ∃ o3 o4 o5 S', st = stP (tI t) l b o3 o4 o5 S' ∧ Ext S S') (g := onV (gN 3)) [0, 1] (stP (tI t) l b none none none S) ⟨_, _, _, _, rfl, .refl S⟩ (by
    rintro pre bit post st e ⟨o3, o4, o5, S1, rfl, E⟩
    obtain ⟨o4', o5', S2, e2, E2⟩ := pr_right (bit := bit) (b := b) (o4 := o4) (o5 := o5) h1 hn ht D (E.at_ hc)
    exact ⟨_, _, rfl, .inl e2, _, _, _, S2, rfl, E.trans E2⟩)
  refine ⟨S', run_ret [slU (tI t), some (.u (.ref l)), slU (.bool b), none, none, none] rfl ?_, E⟩
  unfold B__law_are_primes_right
  have ev : vals (tupF (aCons (kst (.int 0)) (aCons (kst (.int 1)) (aNil)))) (stP (tI t) l b none none none S) = some ([(0 : Int), 1].map (fun m => Itm.v (.v (.int m))), stP (tI t) l b none none none S) := by
    simp [lineOk_of (show 2 ≤ 16777216 by omega)]
  rw [seq_nx (by rw [q_for, ev, Option.bind_some]; exact e)]
  exact ⟨_, _, rfl⟩
end
end Sp

namespace Sp
open PySem L2 MP Sh

/-! ## the law of halves -/
section
variable {t : List Int} {S : List Cell} {l d k n : Nat} {kvs : List (PyData × U)}
theorem tame_sure (bt : Bits t) {h : List (Option Int)} (hh : Half h) : Tame 0 41 (eO (sureO t h)) := by
  cases e : sureO t h with
  | none => exact tame_none
  | some v =>
    have := (sure_iff hh v).mp e
    have b : v = 0 ∨ v = 1 := by
      rw [← this _ (fill0_fills hh), List.getD_eq_getElem?_getD]
      cases g : t[(num (fill0 h)).toNat]? with
      | none => exact .inl rfl
      | some x => exact bt x (List.mem_of_getElem? g)
    exact tame_int (by rcases b with rfl | rfl <;> decide) (Nat.le_refl _)
abbrev stH (dt : PyData) (l k : Nat) (o4 o5 o6 o7 o8 o9 o10 o11 : Option O) (S : List Cell) : Stt := ⟨[some (.u (.ref l)), slU dt, some (.u (.ref k)), slU (.int 8), o4, o5, o6, o7, o8, o9, o10, o11], S, []⟩
abbrev hvs (n : Nat) : List PyData := (halvesL n).reverse.map tO
theorem hr_turn {i : Int} {o4 o5 o7 o8 o9 o10 o11 : Option O} (M : Mill S l d) (bt : Bits t) (hn : n ≤ 6) (ht : t.length = 2 ^ n) (D : SureE t n kvs) (hc : S[k]? = some (.cd kvs)) (kl : k ≠ l) (kd : k ≠ d) (h4 : InL o4 (hvs n)) (h5 : InL o5 ((rows n).map tI)) :
    ∃ o4' o5' o7' o8' o9' o10' o11' S', (seq (sPar3 7 8 9 (hCons (cal 2 F__law_one (aCons (nm 0) (aCons (nm 4) (aNil)))) (hCons (cal 2 F__law_one (aCons (nm 0) (aCons (nm 5) (aNil)))) (hCons (cal 2 F__law_one (aCons (nm 0) (aCons (nm 5) (aNil)))) (hNil))))) (seq (sSet 10 (lstF (aCons (fz (cal 2 F_sure_on (aCons (nm 1) (aCons (nm 7) (aNil))))) (aCons (fz (cal 3 F_lie_together (aCons (nm 1) (aCons (nm 8) (aCons (nm 9) (aNil)))))) (aNil))))) (seq (sIf (tst (eqR false (rN 6) (rU (kst (.int 1))))) (sSet 10 (lstF (aCons (fz (cal 2 F_sure_on (ord o_sure_on_0_half_table (aNil) (aCons (nm 7) (aCons (nm 1) (aNil)))))) (aCons (fz (cal 3 F_lie_together (ord o_lie_together_0_other_one_table (aNil) (aCons (nm 9) (aCons (nm 8) (aCons (nm 1) (aNil))))))) (aNil))))) (sNil)) (seq (sDo (up (lmt kAppend (rN 10) (aCons (fz (cal 3 F_lie_together (aCons (nm 1) (aCons (nm 9) (aCons (nm 8) (aNil)))))) (aNil))))) (seq (sSet 11 (cal 3 F__law_together (aCons (nm 2) (aCons (nm 8) (aCons (nm 9) (aNil)))))) (sIf (notT (tru (fz (cal 2 F__law_same (aCons (nm 10) (aCons (fz (lstF (aCons (idx (rN 2) (nm 7)) (aCons (nm 11) (aCons (nm 11) (aNil)))))) (aNil))))))) (sRet (up (kst (.bool false)))) (sNil))))))) (stH (tI t) l k o4 o5 (slU (.int i)) o7 o8 o9 o10 o11 S) = some (.nx, stH (tI t) l k o4' o5' (slU (.int i)) o7' o8' o9' o10' o11' S') ∧ Mill S' l d ∧ S'[k]? = some (.cd kvs) ∧ InL o4' (hvs n) ∧ InL o5' ((rows n).map tI) := by
  have few := halves_le (n := n) (by omega)
  obtain ⟨x, S1, hx, e1, M1, m1⟩ := law_one M (ds := hvs n) (fun z => by
    have := halves_len n
    simp [hvs] at z
    rw [z] at this
    have q : 0 < 3 ^ n := Nat.pow_pos (by decide)
    rw [← this] at q
    exact absurd q (by decide)) (by simp [hvs]; omega)
  obtain ⟨y, S2, hy, e2, M2, m2⟩ := law_one M1 (rows_ne n) (by rw [List.length_map, rows_len]; have := two_pow_le hn; omega)
  obtain ⟨z, S3, hz, e3, M3, m3⟩ := law_one M2 (rows_ne n) (by rw [List.length_map, rows_len]; have := two_pow_le hn; omega)
  obtain ⟨h, hm, rfl⟩ := List.mem_map.mp hx
  have hm := List.mem_reverse.mp hm
  obtain ⟨hl, hh⟩ := halves_mem n h hm
  obtain ⟨one, rfl, l1, b1⟩ := row_of_mem hy
  obtain ⟨other, rfl, l2, b2⟩ := row_of_mem hz
  have c3 : S3[k]? = some (.cd kvs) := by rw [m3.at_ k kl kd, m2.at_ k kl kd, m1.at_ k kl kd, hc]
  have a1 := sure_on ht hh hl (by omega) S3
  have a2 := lie_together ht l1 l2 b1 (by omega) S3
  have a3 := lie_together ht l2 l1 b2 (by omega) S3
  have a4 := law_together D c3 l1 l2 b1 (by omega)
  rw [alike_comm other one] at a3
  have dg := D.get h hm
  have kok := tupO_ok D.tup h
  have tm : Tame 1 126 (.list [eO (sureO t h), .bool (sureO t (alikeO one other)).isSome, .bool (sureO t (alikeO one other)).isSome]) := tame_list (n := 0) (W := 41) (fun d hd => by
    simp only [List.mem_cons, List.not_mem_nil, or_false] at hd
    rcases hd with rfl | rfl | rfl
    · exact tame_sure bt hh
    · exact tame_bool
    · exact tame_bool) (by simp)
  have ls := law_same tm (by decide) (by decide) S3
  have k2 : lineOk 2 = true := lineOk_of (by omega)
  have k3 : lineOk 3 = true := lineOk_of (by omega)
  refine ⟨slU (.list (hvs n)), slU (.list ((rows n).map tI)), slU (tO h), slU (tI one), slU (tI other), slU (.list [eO (sureO t h), .bool (sureO t (alikeO one other)).isSome, .bool (sureO t (alikeO one other)).isSome]), slU (.bool (sureO t (alikeO one other)).isSome), S3, ?_, M3, c3, .inr rfl, .inr rfl⟩
  generalize hvs n = hv at *
  generalize (rows n).map tI = rw_ at *
  generalize tI t = dt at *
  generalize tI one = d1 at *
  generalize tI other = d2 at *
  generalize tO h = dh at *
  generalize eO (sureO t h) = v at *
  generalize (sureO t (alikeO one other)).isSome = b at *
  rw [seq_nx (st1 := stH dt l k (slU (.list hv)) (slU (.list rw_)) (slU (.int i)) (slU dh) (slU d1) (slU d2) o10 o11 S3) (by rcases h4 with rfl | rfl <;> rcases h5 with rfl | rfl <;> simp [e1, e2, e3])]
  rw [seq_nx (st1 := stH dt l k (slU (.list hv)) (slU (.list rw_)) (slU (.int i)) (slU dh) (slU d1) (slU d2) (some (.ol [v, .bool b])) o11 S3) (by simp [a1, a2, k2])]
  rw [seq_nx (st1 := stH dt l k (slU (.list hv)) (slU (.list rw_)) (slU (.int i)) (slU dh) (slU d1) (slU d2) (some (.ol [v, .bool b])) o11 S3) (by
    by_cases c : i = 1
    · simp [c, a1, a2, k2, o_sure_on_0_half_table, o_lie_together_0_other_one_table]
    · simp [c])]
  rw [seq_nx (st1 := stH dt l k (slU (.list hv)) (slU (.list rw_)) (slU (.int i)) (slU dh) (slU d1) (slU d2) (some (.ol [v, .bool b, .bool b])) o11 S3) (by simp [a3, k3])]
  rw [seq_nx (st1 := stH dt l k (slU (.list hv)) (slU (.list rw_)) (slU (.int i)) (slU dh) (slU d1) (slU d2) (some (.ol [v, .bool b, .bool b])) (slU (.bool b)) S3) (by simp [a4])]
  simp [c3, kok, dg, k3, ls]
theorem law_are_halves_right (M : Mill S l d) (bt : Bits t) (hn : n ≤ 6) (ht : t.length = 2 ^ n) (D : SureD t n kvs) (hc : S[k]? = some (.cd kvs)) (kl : k ≠ l) (kd : k ≠ d) :
    ∃ S', F__law_are_halves_right [.ref l, .v (tI t), .ref k, .v (.int 8)] S = some (.u (.v (.bool true)), S') ∧ Mill S' l d := by
  have e4 := law_places (ds := t.map .int) (m := n) (by rw [List.length_map, ht]) (by omega) S
  have e5 := law_rows (many := n) (by omega) S
  obtain ⟨st', e, o4, o5, o6, o7, o8, o9, o10, o11, S', rfl, M', c', i4, i5⟩ := loopI (α := Nat) (b := (seq (sPar3 7 8 9 (hCons (cal 2 F__law_one (aCons (nm 0) (aCons (nm 4) (aNil)))) (hCons (cal 2 F__law_one (aCons (nm 0) (aCons (nm 5) (aNil)))) (hCons (cal 2 F__law_one (aCons (nm 0) (aCons (nm 5) (aNil)))) (hNil))))) (seq (sSet 10 (lstF (aCons (fz (cal 2 F_sure_on (aCons (nm 1) (aCons (nm 7) (aNil))))) (aCons (fz (cal 3 F_lie_together (aCons (nm 1) (aCons (nm 8) (aCons (nm 9) (aNil)))))) (aNil))))) (seq (sIf (tst (eqR false (rN 6) (rU (kst (.int 1))))) (sSet 10 (lstF (aCons (fz (cal 2 F_sure_on (ord o_sure_on_0_half_table (aNil) (aCons (nm 7) (aCons (nm 1) (aNil)))))) (aCons (fz (cal 3 F_lie_together (ord o_lie_together_0_other_one_table (aNil) (aCons (nm 9) (aCons (nm 8) (aCons (nm 1) (aNil))))))) (aNil))))) (sNil)) (seq (sDo (up (lmt kAppend (rN 10) (aCons (fz (cal 3 F_lie_together (aCons (nm 1) (aCons (nm 9) (aCons (nm 8) (aNil)))))) (aNil))))) (seq (sSet 11 (cal 3 F__law_together (aCons (nm 2) (aCons (nm 8) (aCons (nm 9) (aNil)))))) (sIf (notT (tru (fz (cal 2 F__law_same (aCons (nm 10) (aCons (fz (lstF (aCons (idx (rN 2) (nm 7)) (aCons (nm 11) (aCons (nm 11) (aNil)))))) (aNil))))))) (sRet (up (kst (.bool false)))) (sNil)))))))) (fun i => .v (.v (.int (i : Nat)))) (fun pre st => ∃ o4 o5 o6 o7 o8 o9 o10 o11 S', st = stH (tI t) l k o4 o5 o6 o7 o8 o9 o10 o11 S' ∧ Mill S' l d ∧ S'[k]? = some (.cd kvs) ∧ InL o4 (hvs n) ∧ InL o5 ((rows n).map tI)) (g := onV (gN 6)) (List.range 8) (stH (tI t) l k (some (.ol (hvs n))) (some (.ol ((rows n).map tI))) none none none none none none S) ⟨_, _, _, _, _, _, _, _, _, rfl, M, hc, .inl rfl, .inl rfl⟩ (by
    rintro pre i post st e ⟨o4, o5, o6, o7, o8, o9, o10, o11, S1, rfl, M1, c1, i4, i5⟩
    obtain ⟨p4, p5, p7, p8, p9, p10, p11, S2, e2, M2, c2, j4, j5⟩ := hr_turn (i := (i : Nat)) (o7 := o7) (o8 := o8) (o9 := o9) (o10 := o10) (o11 := o11) M1 bt hn ht D.e c1 kl kd i4 i5
    exact ⟨_, _, rfl, .inl e2, _, _, _, _, _, _, _, _, S2, rfl, M2, c2, j4, j5⟩)
  refine ⟨S', run_ret [some (.u (.ref l)), slU (tI t), some (.u (.ref k)), slU (.int 8), none, none, none, none, none, none, none, none] rfl ?_, M'⟩
  have e : fLoop (onV (gN 6)) _ (rgN 8) _ = _ := e
  have r8 : rg1 (nm 3) (stH (tI t) l k (some (.ol (hvs n))) (some (.ol ((rows n).map tI))) none none none none none none S) = some (rgN 8, stH (tI t) l k (some (.ol (hvs n))) (some (.ol ((rows n).map tI))) none none none none none none S) := q_rg1n (n := 8) rfl (by decide)
  unfold B__law_are_halves_right
  have kys := D.keys
  rw [seq_nx (st1 := stH (tI t) l k (some (.ol (hvs n))) (some (.ol ((rows n).map tI))) none none none none none none S) (by
    change F__law_places [.v (tI t)] S = _ at e4
    change kvs.map (·.1) = hvs n at kys
    generalize hvs n = hv at *
    generalize (rows n).map tI = rws at *
    generalize tI t = dt at *
    simp [kListD, hc, e4, e5, kys])]
  rw [seq_nx (by rw [q_for, r8, Option.bind_some]; exact e)]
  exact ⟨_, _, rfl⟩
end
end Sp

namespace Sp
open PySem L2 MP Sh

/-! ## the law k82 -/
section
variable {t : List Int} {S : List Cell} {l d k n : Nat} {kvs : List (PyData × U)}
abbrev stM (ns : List Int) (l : Nat) (o2 o3 o4 o5 o6 : Option O) (S : List Cell) : Stt := ⟨[some (.u (.scr ns)), some (.u (.ref l)), o2, o3, o4, o5, o6], S, []⟩
theorem m_turn {ns : List Int} {o2 o3 o4 o6 : Option O} {a : Int} (M : Mill S l d) :
    ∃ (o2' o3' o6' : Option O) (S' : List Cell), (seq (sSet 2 (cal 2 F__law_table (aCons (nm 1) (aCons (fz (cal 2 F__law_one (aCons (nm 1) (aCons (fz (lstF (aCons (kst (.int 1)) (aCons (kst (.int 2)) (aCons (kst (.int 3)) (aCons (kst (.int 3)) (aCons (kst (.int 4)) (aNil)))))))) (aNil))))) (aNil))))) (seq (sPar 3 6 (hCons (cal 1 F__law_sure (aCons (nm 2) (aNil))) (hCons (bl kRepr (aCons (nm 2) (aNil))) (hNil)))) (seq (sIf (notT (tru (fz (cal 3 F__law_are_primes_right (aCons (nm 2) (aCons (nm 3) (aCons (eqR false (rN 5) (rU (kst (.int 1)))) (aNil)))))))) (sRet (up (kst (.bool false)))) (sNil)) (sIf (orT (notT (tru (fz (cal 4 F__law_are_halves_right (aCons (nm 1) (aCons (nm 2) (aCons (nm 3) (aCons (kst (.int 8)) (aNil))))))))) (tst (eqR true (rU (fz (bl kRepr (aCons (nm 2) (aNil))))) (rN 6)))) (sRet (up (kst (.bool false)))) (sNil))))) (stM ns l o2 o3 o4 (slU (.int a)) o6 S) = some (.nx, stM ns l o2' o3' o4 (slU (.int a)) o6' S') ∧ Mill S' l d := by
  obtain ⟨x, S1, hx, e1, M1, sm1⟩ := law_one M (ds := [.int 1, .int 2, .int 3, .int 3, .int 4]) (fun z => nomatch z) (by decide)
  obtain ⟨n, rfl, h1, hn⟩ : ∃ n : Nat, x = .int (n : Nat) ∧ 1 ≤ n ∧ n ≤ 4 := by
    simp only [List.mem_cons, List.not_mem_nil, or_false] at hx
    rcases hx with rfl | rfl | rfl | rfl | rfl
    · exact ⟨1, rfl, by decide, by decide⟩
    · exact ⟨2, rfl, by decide, by decide⟩
    · exact ⟨3, rfl, by decide, by decide⟩
    · exact ⟨3, rfl, by decide, by decide⟩
    · exact ⟨4, rfl, by decide, by decide⟩
  have two := two_pow_le hn
  obtain ⟨t, S2, e2, ht, bt, M2, sm2⟩ := law_table M1 h1 (by omega)
  obtain ⟨kvs, e3, D⟩ := law_sure ht (by omega) S2
  have tt := tame_bits bt
  have e4 := q_repr tt (by decide) (by omega)
  have sh := shaped_str tt.ok
  have k5 : lineOk 5 = true := lineOk_of (by omega)
  have cell : (S2 ++ [Cell.cd kvs])[S2.length]? = some (.cd kvs) := by simp
  obtain ⟨S3, e5, E3⟩ := law_are_primes_right (b := a == 1) h1 (by omega) ht D.e cell
  have lt := M2.lt
  obtain ⟨S4, e6, M4⟩ := law_are_halves_right (k := S2.length) ((M2.app (.cd kvs)).ext E3) bt (by omega) ht D (E3.at_ cell) (by omega) (by omega)
  refine ⟨slU (tI t), some (.u (.ref S2.length)), slU (.str (tI t).shown), S4, ?_, M4⟩
  generalize (tI t).shown = z at *
  generalize tI t = dt at *
  generalize (n : Int) = nn at *
  rw [seq_nx (st1 := stM ns l (slU dt) o3 o4 (slU (.int a)) o6 S2) (by simp [e1, e2, k5])]
  rw [seq_nx (st1 := stM ns l (slU dt) (some (.od kvs)) o4 (slU (.int a)) (slU (.str z)) S2) (by simp [e3, e4])]
  rw [seq_nx (st1 := stM ns l (slU dt) (some (.u (.ref S2.length))) o4 (slU (.int a)) (slU (.str z)) S3) (by simp [e5])]
  simp [e6, e4, sh]
theorem m_great {ns : List Int} {o2 o3 o4 o5 o6 : Option O} (M : Mill S l d) :
    ∃ S' r' h', (seq (sSet 2 (cal 2 F__law_table (aCons (nm 1) (aCons (kst (.int 5)) (aNil))))) (seq (sPar 3 4 (hCons (cal 1 F__law_sure (aCons (nm 2) (aNil))) (hCons (cal 2 F__law_take (aCons (nm 1) (aCons (kst (.int 2)) (aNil)))) (hNil)))) (sRet (cal 2 F__law_same (aCons (fz (cal 2 F_primes (aCons (nm 2) (aCons (nm 4) (aNil))))) (aCons (fz (b1 kTuple (rU (fz (cal 3 F__law_primes (aCons (nm 2) (aCons (nm 4) (aCons (nm 3) (aNil))))))))) (aNil))))))) (stM ns l o2 o3 o4 o5 o6 S) = some (.rt (.u (.v (.bool true))), ⟨r', S', h'⟩) := by
  obtain ⟨t, S2, e2, ht, bt, M2, sm2⟩ := law_table M (many := 5) (by omega) (by omega)
  obtain ⟨kvs, e3, D⟩ := law_sure ht (by omega) S2
  obtain ⟨q, S3, e4, -, M3, sm3⟩ := law_take M2 (many := 2) (by decide) (by decide)
  have cell : (S3 ++ [Cell.cd kvs])[S3.length]? = some (.cd kvs) := by simp
  have e5 := primes (bit := q) ht (by omega) (by omega) S3
  have e6 := law_primes (bit := q) D.e cell ht (by omega)
  have tp := tame_halves (primes_half (t := t) (bit := q) (n := 5)) (primes_few (by omega))
  have ls := law_same tp (by decide) (by decide) (S3 ++ [Cell.cd kvs])
  generalize (primesL t q 5).map tO = p at *
  generalize tI t = dt at *
  refine ⟨S3 ++ [.cd kvs], ?_⟩
  rw [seq_nx (st1 := stM ns l (slU dt) o3 o4 o5 o6 S2) (by
    have e2 : F__law_table [.ref l, .v (.int 5)] S = _ := e2
    simp [e2])]
  rw [seq_nx (st1 := stM ns l (slU dt) (some (.od kvs)) (slU (.int q)) o5 o6 S3) (by simp [e3, e4])]
  simp [e5, e6, kTuple, ls]
end
theorem law_k82 (ns : List Int) (hn : ns.length ≤ 63) : ∃ S, F_law_v7 [.scr ns] [] = some (.u (.v (.bool true)), S) := by
  obtain ⟨deep, sl, e0, pos, few⟩ := law_mill hn 16282 (by decide) []
  have M0 : Mill ([Cell.cl (deep.map .int)] ++ [.cd (millD 0 sl 0)]) 1 0 := ⟨by decide, deep, sl, 0, rfl, rfl, pos, few⟩
  obtain ⟨r, S1, e1, -, M1, sm1⟩ := law_take M0 (many := 10) (by decide) (by decide)
  have s1 : sSet 1 (cal 2 F__law_mill (aCons (nm 0) (aCons (kst (.int 16282)) (aNil)))) ⟨[some (.u (.scr ns)), none, none, none, none, none, none], [], []⟩ = some (.nx, ⟨[some (.u (.scr ns)), some (.od (millD 0 sl 0)), none, none, none, none, none], [.cl (deep.map .int)], []⟩) := by
    simp only [List.length_nil, List.nil_append] at e0
    simp [e0]
  by_cases h0 : r = 0
  · subst h0
    obtain ⟨S', r', h', e2⟩ := m_great (ns := ns) (o2 := none) (o3 := none) (o4 := none) (o5 := none) (o6 := none) M1
    refine ⟨S', run_ret [some (.u (.scr ns)), none, none, none, none, none, none] rfl ⟨r', h', ?_⟩⟩
    unfold B_law_v7
    rw [seq_nx s1, seq_rt (by
      rw [if_yes (st1 := stM ns 1 none none none none none S1) (by simp at e1; simp [e1])]
      exact e2)]
  · obtain ⟨st', e2, o2, o3, o5, o6, S', rfl, M'⟩ := loopI (α := Nat) (b := (seq (sSet 2 (cal 2 F__law_table (aCons (nm 1) (aCons (fz (cal 2 F__law_one (aCons (nm 1) (aCons (fz (lstF (aCons (kst (.int 1)) (aCons (kst (.int 2)) (aCons (kst (.int 3)) (aCons (kst (.int 3)) (aCons (kst (.int 4)) (aNil)))))))) (aNil))))) (aNil))))) (seq (sPar 3 6 (hCons (cal 1 F__law_sure (aCons (nm 2) (aNil))) (hCons (bl kRepr (aCons (nm 2) (aNil))) (hNil)))) (seq (sIf (notT (tru (fz (cal 3 F__law_are_primes_right (aCons (nm 2) (aCons (nm 3) (aCons (eqR false (rN 5) (rU (kst (.int 1)))) (aNil)))))))) (sRet (up (kst (.bool false)))) (sNil)) (sIf (orT (notT (tru (fz (cal 4 F__law_are_halves_right (aCons (nm 1) (aCons (nm 2) (aCons (nm 3) (aCons (kst (.int 8)) (aNil))))))))) (tst (eqR true (rU (fz (bl kRepr (aCons (nm 2) (aNil))))) (rN 6)))) (sRet (up (kst (.bool false)))) (sNil)))))) (fun i => .v (.v (.int (i : Nat)))) (fun pre st => ∃ (o2 o3 o5 o6 : Option O) (S' : List Cell), st = stM ns 1 o2 o3 none o5 o6 S' ∧ Mill S' 1 0) (g := onV (gN 5)) (List.range 3) (stM ns 1 none none none none none S1) ⟨_, _, _, _, _, rfl, M1⟩ (by
      rintro pre i post st e ⟨o2, o3, o5, o6, S', rfl, M'⟩
      obtain ⟨p2, p3, p6, S3, e3, M3⟩ := m_turn (ns := ns) (o2 := o2) (o3 := o3) (o4 := none) (o6 := o6) (a := (i : Nat)) M'
      exact ⟨_, _, rfl, .inl e3, _, _, _, _, _, rfl, M3⟩)
    have e2 : fLoop (onV (gN 5)) _ (rgN 3) _ = _ := e2
    refine ⟨S', run_ret [some (.u (.scr ns)), none, none, none, none, none, none] rfl ?_⟩
    unfold B_law_v7
    rw [seq_nx s1, seq_nx (st1 := stM ns 1 none none none none none S1) (by
      rw [if_no (st1 := stM ns 1 none none none none none S1) (by simp at e1; simp [e1, h0])]
      rfl)]
    have r3 : rg1 (kst (.int 3)) (stM ns 1 none none none none none S1) = some (rgN 3, stM ns 1 none none none none none S1) := q_rg1n (n := 3) rfl (by decide)
    rw [seq_nx (by rw [q_for, r3, Option.bind_some]; exact e2)]
    exact ⟨_, _, rfl⟩
end Sp

namespace K82
open PySem PySem.Spec PyProof.Rows L2 MP Sh
abbrev top (i : Nat) : Stmt := PySem.Challenge.pw_fullsense_k82_whole_primes.main.body.getD i (.Pass ⟨0, 0, 0, 0⟩)
variable {P : Program} {w : World} {K : PySem.W.Frag} {mg : Str → Option Value} {base : Heap} {k : Nat}
theorem sc_places_of : FnScope ["table", "many"] ["table"] (defScope (top 1)) := ⟨rfl, rfl, rfl, by decide +kernel, rfl, by decide +kernel, by decide +kernel⟩
theorem d_places_of {f_places_of : Addr} {fd_places_of : FuncData} (Fu : Fun K "places_of" "places_of" (top 1) f_places_of fd_places_of) (h1 : mg "places_of" = some (.ref f_places_of)) (h2 : PySem.W.keepIn K (.ref f_places_of) = true) (h3 : Binds K fd_places_of ["table"] []) (m_len : mg "len" = none) :
    Df P w K mg base (k + 1) "places_of" f_places_of fd_places_of ["table"] 1 F_places_of :=
  have nd := sc_places_of.nd
  ⟨h1, h2, h3, fnF (N := ["table", "many"]) Fu sc_places_of rfl rfl fun cdv A outer s H E hr hgu =>
    s_cons (s_set nd rfl (.inl rfl) (e_up (e_int))) (s_cons (s_while .never (t_lt (e_shl (e_int) (e_nm (pv 1))) (e_fz (e_len rfl m_len (r_nm (pv 0))))) (s_one (s_set nd rfl (.inl rfl) (e_up (e_add (e_nm (pv 1)) (e_int)))))) (s_one (s_ret (e_own (pv 1)))))⟩
theorem sc_number_of : FnScope ["row", "number", "bit"] ["row"] (defScope (top 2)) := ⟨rfl, rfl, rfl, by decide +kernel, rfl, by decide +kernel, by decide +kernel⟩
theorem d_number_of {f_number_of : Addr} {fd_number_of : FuncData} (Fu : Fun K "number_of" "number_of" (top 2) f_number_of fd_number_of) (h1 : mg "number_of" = some (.ref f_number_of)) (h2 : PySem.W.keepIn K (.ref f_number_of) = true) (h3 : Binds K fd_number_of ["row"] []) :
    Df P w K mg base (k + 1) "number_of" f_number_of fd_number_of ["row"] 1 F_number_of :=
  have nd := sc_number_of.nd
  ⟨h1, h2, h3, fnF (N := ["row", "number", "bit"]) Fu sc_number_of rfl rfl fun cdv A outer s H E hr hgu =>
    s_cons (s_set nd rfl (.inl rfl) (e_up (e_int))) (s_cons (s_for (vs := [2]) .never rfl (i_vals (e_nm (pv 0))) (i_on (w_nm nd rfl (.inl rfl) (by decide))) (s_one (s_set nd rfl (.inl rfl) (e_up (e_add (e_mul (e_int) (e_nm (pv 1))) (e_nm (pv 2))))))) (s_one (s_ret (e_own (pv 1)))))⟩
theorem sc_value_at : FnScope ["table", "row"] ["table", "row"] (defScope (top 3)) := ⟨rfl, rfl, rfl, by decide +kernel, rfl, by decide +kernel, by decide +kernel⟩
theorem d_value_at {f_value_at : Addr} {fd_value_at : FuncData} (Fu : Fun K "value_at" "value_at" (top 3) f_value_at fd_value_at) (h1 : mg "value_at" = some (.ref f_value_at)) (h2 : PySem.W.keepIn K (.ref f_value_at) = true) (h3 : Binds K fd_value_at ["table", "row"] []) {f_number_of : Addr} {fd_number_of : FuncData} (D_number_of : Df P w K mg base k "number_of" f_number_of fd_number_of ["row"] 1 F_number_of) :
    Df P w K mg base (k + 1) "value_at" f_value_at fd_value_at ["table", "row"] 2 F_value_at :=
  have nd := sc_value_at.nd
  ⟨h1, h2, h3, fnF (N := ["table", "row"]) Fu sc_value_at rfl rfl fun cdv A outer s H E hr hgu =>
    s_one (s_ret (e_up (e_ix hr (r_nm (pv 0)) (e_fz (e_call D_number_of.fn hr hgu rfl D_number_of.m D_number_of.kp D_number_of.b (a_cons (e_nm (pv 1)) (a_nil)))) (fun _ _ => rfl))))⟩
theorem sc_rows_filling : FnScope ["half", "found", "bit", "row"] ["half"] (defScope (top 4)) := ⟨rfl, rfl, rfl, by decide +kernel, rfl, by decide +kernel, by decide +kernel⟩
theorem d_rows_filling {f_rows_filling : Addr} {fd_rows_filling : FuncData} (Fu : Fun K "rows_filling" "rows_filling" (top 4) f_rows_filling fd_rows_filling) (h1 : mg "rows_filling" = some (.ref f_rows_filling)) (h2 : PySem.W.keepIn K (.ref f_rows_filling) = true) (h3 : Binds K fd_rows_filling ["half"] []) (m_tuple : mg "tuple" = none) (m_sorted : mg "sorted" = none) :
    Df P w K mg base (k + 1) "rows_filling" f_rows_filling fd_rows_filling ["half"] 1 F_rows_filling :=
  have nd := sc_rows_filling.nd
  ⟨h1, h2, h3, fnF (N := ["half", "found", "bit", "row"]) Fu sc_rows_filling rfl rfl fun cdv A outer s H E hr hgu =>
    s_cons (s_set nd rfl (.inl rfl) (e_lst (a_cons (e_tup (a_nil)) (a_nil)))) (s_cons (s_for (vs := [2]) .never rfl (i_vals (e_nm (pv 0))) (i_on (w_nm nd rfl (.inr rfl) (by decide))) (s_one (s_if (t_is (e_nm (pv 2)) (e_none)) (s_one (s_set nd rfl (.inl rfl) (e_up (e_add (e_fz (e_lc rfl nd (blkOk_by (own := [("row", 3)]) (by rfl)) rfl (i_vals (e_nm (pv 1))) (fun _ _ _ _ _ => i_on (w_nm nd rfl (.inl rfl) (by decide))) (fun _ _ _ _ _ => c_yes) (fun _ _ _ _ _ => e_add (e_nm (pv 3)) (e_tup (a_cons (e_int) (a_nil)))))) (e_fz (e_lc rfl nd (blkOk_by (own := [("row", 3)]) (by rfl)) rfl (i_vals (e_nm (pv 1))) (fun _ _ _ _ _ => i_on (w_nm nd rfl (.inl rfl) (by decide))) (fun _ _ _ _ _ => c_yes) (fun _ _ _ _ _ => e_add (e_nm (pv 3)) (e_tup (a_cons (e_int) (a_nil)))))))))) (s_one (s_setLc rfl nd rfl rfl rfl rfl (by decide +kernel) (blkOk_by (own := [("row", 3)]) (by rfl)) rfl (i_vals (e_nm (pv 1))) (fun _ _ _ _ _ => i_on (w_nm nd rfl (.inl rfl) (by decide))) (fun _ _ _ _ _ => c_yes) (fun _ _ _ _ _ => e_add (e_nm (pv 3)) (e_tup (a_cons (e_nm (pv 2)) (a_nil))))))))) (s_one (s_ret (e_tuple rfl m_tuple (r_u (e_fz (e_sorted hr rfl m_sorted (r_nm (pv 1)))))))))⟩
theorem sc_half_text : FnScope ["half", "bit"] ["half"] (defScope (top 6)) := ⟨rfl, rfl, rfl, by decide +kernel, rfl, by decide +kernel, by decide +kernel⟩
theorem d_half_text {f_half_text : Addr} {fd_half_text : FuncData} (Fu : Fun K "half_text" "half_text" (top 6) f_half_text fd_half_text) (h1 : mg "half_text" = some (.ref f_half_text)) (h2 : PySem.W.keepIn K (.ref f_half_text) = true) (h3 : Binds K fd_half_text ["half"] []) (m_str : mg "str" = none) :
    Df P w K mg base (k + 1) "half_text" f_half_text fd_half_text ["half"] 1 F_half_text :=
  have nd := sc_half_text.nd
  ⟨h1, h2, h3, fnF (N := ["half", "bit"]) Fu sc_half_text rfl rfl fun cdv A outer s H E hr hgu =>
    s_one (s_ret (e_up (e_mth (km_join hr) (r_u (e_str)) (a_cons (e_fz (e_lc rfl nd (blkOk_by (own := [("bit", 1)]) (by rfl)) rfl (i_vals (e_nm (pv 0))) (fun _ _ _ _ _ => i_on (w_nm nd rfl (.inl rfl) (by decide))) (fun _ _ _ _ _ => c_yes) (fun _ _ _ _ _ => e_fz (e_ifO (t_is (e_nm (pv 1)) (e_none)) (e_up (e_str)) (e_str' rfl m_str (a_cons (e_nm (pv 1)) (a_nil))))))) (a_nil)))))⟩
theorem sc_halves : FnScope ["many", "found", "turn", "longer", "half"] ["many"] (defScope (top 8)) := ⟨rfl, rfl, rfl, by decide +kernel, rfl, by decide +kernel, by decide +kernel⟩
theorem d_halves {f_halves : Addr} {fd_halves : FuncData} (Fu : Fun K "halves" "halves" (top 8) f_halves fd_halves) (h1 : mg "halves" = some (.ref f_halves)) (h2 : PySem.W.keepIn K (.ref f_halves) = true) (h3 : Binds K fd_halves ["many"] []) (m_range : mg "range" = none) :
    Df P w K mg base (k + 1) "halves" f_halves fd_halves ["many"] 1 F_halves :=
  have nd := sc_halves.nd
  ⟨h1, h2, h3, fnF (N := ["many", "found", "turn", "longer", "half"]) Fu sc_halves rfl rfl fun cdv A outer s H E hr hgu =>
    s_cons (s_set nd rfl (.inl rfl) (e_lst (a_cons (e_tup (a_nil)) (a_nil)))) (s_cons (s_for (vs := [2]) .never rfl (i_rg1 rfl m_range (e_nm (pv 0))) (i_on (w_nm nd rfl (.inl rfl) (by decide))) (s_cons (s_set nd rfl (.inl rfl) (e_lst (a_nil))) (s_cons (s_for (vs := [4]) .never rfl (i_vals (e_nm (pv 1))) (i_on (w_nm nd rfl (.inl rfl) (by decide))) (s_one (s_do (e_up (L_extend (r_nm (pv 3)) (a_cons (e_fz (e_lst (a_cons (e_add (e_nm (pv 4)) (e_tup (a_cons (e_none) (a_nil)))) (a_cons (e_add (e_nm (pv 4)) (e_tup (a_cons (e_int) (a_nil)))) (a_cons (e_add (e_nm (pv 4)) (e_tup (a_cons (e_int) (a_nil)))) (a_nil)))))) (a_nil))))))) (s_one (s_set nd rfl (.inl rfl) (e_up (e_nm (pv 3)))))))) (s_one (s_ret (e_own (pv 1)))))⟩
theorem sc_sure_on : FnScope ["table", "half", "values", "row"] ["table", "half"] (defScope (top 9)) := ⟨rfl, rfl, rfl, by decide +kernel, rfl, by decide +kernel, by decide +kernel⟩
theorem d_sure_on {f_sure_on : Addr} {fd_sure_on : FuncData} (Fu : Fun K "sure_on" "sure_on" (top 9) f_sure_on fd_sure_on) (h1 : mg "sure_on" = some (.ref f_sure_on)) (h2 : PySem.W.keepIn K (.ref f_sure_on) = true) (h3 : Binds K fd_sure_on ["table", "half"] []) {f_rows_filling : Addr} {fd_rows_filling : FuncData} (D_rows_filling : Df P w K mg base k "rows_filling" f_rows_filling fd_rows_filling ["half"] 1 F_rows_filling) {f_value_at : Addr} {fd_value_at : FuncData} (D_value_at : Df P w K mg base k "value_at" f_value_at fd_value_at ["table", "row"] 2 F_value_at) (m_len : mg "len" = none) :
    Df P w K mg base (k + 1) "sure_on" f_sure_on fd_sure_on ["table", "half"] 2 F_sure_on :=
  have nd := sc_sure_on.nd
  ⟨h1, h2, h3, fnF (N := ["table", "half", "values", "row"]) Fu sc_sure_on rfl rfl fun cdv A outer s H E hr hgu =>
    s_cons (s_setLc rfl nd rfl rfl rfl rfl (by decide +kernel) (blkOk_by (own := [("row", 3)]) (by rfl)) rfl (i_vals (e_fz (e_call D_rows_filling.fn hr hgu rfl D_rows_filling.m D_rows_filling.kp D_rows_filling.b (a_cons (e_nm (pv 1)) (a_nil))))) (fun _ _ _ _ _ => i_on (w_nm nd rfl (.inl rfl) (by decide))) (fun _ _ _ _ _ => c_yes) (fun _ _ _ _ _ => e_fz (e_call D_value_at.fn hr hgu rfl D_value_at.m D_value_at.kp D_value_at.b (a_cons (e_nm (pv 0)) (a_cons (e_nm (pv 3)) (a_nil)))))) (s_one (s_ret (e_ifO (t_eqR hr (r_u (e_mth (km_count hr) (r_nm (pv 2)) (a_cons (e_ix hr (r_nm (pv 2)) (e_int) (fun _ _ => rfl)) (a_nil)))) (r_u (e_fz (e_len rfl m_len (r_nm (pv 2)))))) (e_up (e_ix hr (r_nm (pv 2)) (e_int) (fun _ _ => rfl))) (e_up (e_none)))))⟩
theorem sc_with_item : FnScope ["half", "place", "item"] ["half", "place", "item"] (defScope (top 10)) := ⟨rfl, rfl, rfl, by decide +kernel, rfl, by decide +kernel, by decide +kernel⟩
theorem d_with_item {f_with_item : Addr} {fd_with_item : FuncData} (Fu : Fun K "with_item" "with_item" (top 10) f_with_item fd_with_item) (h1 : mg "with_item" = some (.ref f_with_item)) (h2 : PySem.W.keepIn K (.ref f_with_item) = true) (h3 : Binds K fd_with_item ["half", "place", "item"] []) :
    Df P w K mg base (k + 1) "with_item" f_with_item fd_with_item ["half", "place", "item"] 3 F_with_item :=
  have nd := sc_with_item.nd
  ⟨h1, h2, h3, fnF (N := ["half", "place", "item"]) Fu sc_with_item rfl rfl fun cdv A outer s H E hr hgu =>
    s_one (s_ret (e_up (e_add (e_add (e_fz (e_sl (r_nm (pv 0)) (p_no) (p_at (e_nm (pv 1))))) (e_tup (a_cons (e_nm (pv 2)) (a_nil)))) (e_fz (e_sl (r_nm (pv 0)) (p_at (e_add (e_nm (pv 1)) (e_int))) (p_no))))))⟩
theorem sc_free_in : FnScope ["half"] ["half"] (defScope (top 12)) := ⟨rfl, rfl, rfl, by decide +kernel, rfl, by decide +kernel, by decide +kernel⟩
theorem d_free_in {f_free_in : Addr} {fd_free_in : FuncData} (Fu : Fun K "free_in" "free_in" (top 12) f_free_in fd_free_in) (h1 : mg "free_in" = some (.ref f_free_in)) (h2 : PySem.W.keepIn K (.ref f_free_in) = true) (h3 : Binds K fd_free_in ["half"] []) :
    Df P w K mg base (k + 1) "free_in" f_free_in fd_free_in ["half"] 1 F_free_in :=
  have nd := sc_free_in.nd
  ⟨h1, h2, h3, fnF (N := ["half"]) Fu sc_free_in rfl rfl fun cdv A outer s H E hr hgu =>
    s_one (s_ret (e_up (e_mth (km_count hr) (r_nm (pv 0)) (a_cons (e_none) (a_nil)))))⟩
theorem sc_sure_values : FnScope ["table", "found", "half", "place", "low", "high"] ["table"] (defScope (top 11)) := ⟨rfl, rfl, rfl, by decide +kernel, rfl, by decide +kernel, by decide +kernel⟩
theorem d_sure_values {f_sure_values : Addr} {fd_sure_values : FuncData} (Fu : Fun K "sure_values" "sure_values" (top 11) f_sure_values fd_sure_values) (h1 : mg "sure_values" = some (.ref f_sure_values)) (h2 : PySem.W.keepIn K (.ref f_sure_values) = true) (h3 : Binds K fd_sure_values ["table"] []) {f_halves : Addr} {fd_halves : FuncData} (D_halves : Df P w K mg base k "halves" f_halves fd_halves ["many"] 1 F_halves) {f_places_of : Addr} {fd_places_of : FuncData} (D_places_of : Df P w K mg base k "places_of" f_places_of fd_places_of ["table"] 1 F_places_of) {f_value_at : Addr} {fd_value_at : FuncData} (D_value_at : Df P w K mg base k "value_at" f_value_at fd_value_at ["table", "row"] 2 F_value_at) {f_with_item : Addr} {fd_with_item : FuncData} (D_with_item : Df P w K mg base k "with_item" f_with_item fd_with_item ["half", "place", "item"] 3 F_with_item) {kk_free_in : Nat} {fk_free_in : Addr} {fdk_free_in : FuncData} (DK_free_in : Df P w K mg base kk_free_in "free_in" fk_free_in fdk_free_in ["half"] 1 F_free_in) (hk_free_in : kk_free_in + 1 ≤ k) (m_sorted : mg "sorted" = none) :
    Df P w K mg base (k + 1) "sure_values" f_sure_values fd_sure_values ["table"] 1 F_sure_values :=
  have nd := sc_sure_values.nd
  ⟨h1, h2, h3, fnF (N := ["table", "found", "half", "place", "low", "high"]) Fu sc_sure_values rfl rfl fun cdv A outer s H E hr hgu =>
    s_cons (s_set nd rfl (.inl rfl) (e_dnew)) (s_cons (s_for (vs := [2]) .never rfl (i_vals (e_fz (e_sortBy DK_free_in (hr.mono hk_free_in) hgu rfl m_sorted rfl (r_u (e_fz (e_call D_halves.fn hr hgu rfl D_halves.m D_halves.kp D_halves.b (a_cons (e_fz (e_call D_places_of.fn hr hgu rfl D_places_of.m D_places_of.kp D_places_of.b (a_cons (e_nm (pv 0)) (a_nil)))) (a_nil)))))))) (i_on (w_nm nd rfl (.inl rfl) (by decide))) (s_one (s_if (t_notin hr (e_none) (r_nm (pv 2)) rfl) (s_one (s_asg (e_fz (e_call D_value_at.fn hr hgu rfl D_value_at.m D_value_at.kp D_value_at.b (a_cons (e_nm (pv 0)) (a_cons (e_nm (pv 2)) (a_nil))))) (g_sub hr (r_nm (pv 1)) (e_nm (pv 2))))) (s_cons (s_set nd rfl (.inl rfl) (e_up (e_mth (km_index hr) (r_nm (pv 2)) (a_cons (e_none) (a_nil))))) (s_cons (s_par rfl nd rfl rfl (by decide) rfl rfl (a_h (e_up (e_ix hr (r_nm (pv 1)) (e_fz (e_call D_with_item.fn hr hgu rfl D_with_item.m D_with_item.kp D_with_item.b (a_cons (e_nm (pv 2)) (a_cons (e_nm (pv 3)) (a_cons (e_int) (a_nil)))))) (fun _ _ => rfl))) (a_h (e_up (e_ix hr (r_nm (pv 1)) (e_fz (e_call D_with_item.fn hr hgu rfl D_with_item.m D_with_item.kp D_with_item.b (a_cons (e_nm (pv 2)) (a_cons (e_nm (pv 3)) (a_cons (e_int) (a_nil)))))) (fun _ _ => rfl))) (a_h0))) rfl) (s_one (s_asg (e_if (t_eqR hr (r_nm (pv 4)) (r_nm (pv 5))) (e_nm (pv 4)) (e_none)) (g_sub hr (r_nm (pv 1)) (e_nm (pv 2)))))))))) (s_one (s_ret (e_own (pv 1)))))⟩
theorem sc_primes : FnScope ["table", "bit", "values", "found", "half", "wider", "place", "item", "own"] ["table", "bit"] (defScope (top 13)) := ⟨rfl, rfl, rfl, by decide +kernel, rfl, by decide +kernel, by decide +kernel⟩
theorem d_primes {f_primes : Addr} {fd_primes : FuncData} (Fu : Fun K "primes" "primes" (top 13) f_primes fd_primes) (h1 : mg "primes" = some (.ref f_primes)) (h2 : PySem.W.keepIn K (.ref f_primes) = true) (h3 : Binds K fd_primes ["table", "bit"] []) {f_sure_values : Addr} {fd_sure_values : FuncData} (D_sure_values : Df P w K mg base k "sure_values" f_sure_values fd_sure_values ["table"] 1 F_sure_values) {f_halves : Addr} {fd_halves : FuncData} (D_halves : Df P w K mg base k "halves" f_halves fd_halves ["many"] 1 F_halves) {f_places_of : Addr} {fd_places_of : FuncData} (D_places_of : Df P w K mg base k "places_of" f_places_of fd_places_of ["table"] 1 F_places_of) {f_with_item : Addr} {fd_with_item : FuncData} (D_with_item : Df P w K mg base k "with_item" f_with_item fd_with_item ["half", "place", "item"] 3 F_with_item) (m_enumerate : mg "enumerate" = none) (m_any : mg "any" = none) (m_tuple : mg "tuple" = none) :
    Df P w K mg base (k + 1) "primes" f_primes fd_primes ["table", "bit"] 2 F_primes :=
  have nd := sc_primes.nd
  ⟨h1, h2, h3, fnF (N := ["table", "bit", "values", "found", "half", "wider", "place", "item", "own"]) Fu sc_primes rfl rfl fun cdv A outer s H E hr hgu =>
    s_cons (s_parC rfl nd rfl rfl (by decide) (.inr rfl) (.inl rfl) (a_h (e_call D_sure_values.fn hr hgu rfl D_sure_values.m D_sure_values.kp D_sure_values.b (a_cons (e_nm (pv 0)) (a_nil))) (a_h (e_lst (a_nil)) (a_h0)))) (s_cons (s_for (vs := [4]) .never rfl (i_vals (e_fz (e_call D_halves.fn hr hgu rfl D_halves.m D_halves.kp D_halves.b (a_cons (e_fz (e_call D_places_of.fn hr hgu rfl D_places_of.m D_places_of.kp D_places_of.b (a_cons (e_nm (pv 0)) (a_nil)))) (a_nil))))) (i_on (w_nm nd rfl (.inr rfl) (by decide))) (s_one (s_if (t_eqR hr (r_u (e_ix hr (r_nm (pv 2)) (e_nm (pv 4)) (fun _ _ => rfl))) (r_nm (pv 1))) (s_cons (s_setLc rfl nd rfl rfl rfl rfl (by decide +kernel) (blkOk_by (own := [("place", 6), ("item", 7)]) (by rfl)) rfl (i_enum rfl m_enumerate (e_nm (pv 4))) (fun _ _ _ _ _ => i_tup rfl (ws_cons (w_nm nd rfl (.inl rfl) (by decide)) (ws_cons (w_nm nd rfl (.inl rfl) (by decide)) (ws_nil)))) (fun _ _ _ _ _ => c_one (t_isnot (e_nm (pv 7)) (e_none))) (fun _ _ _ _ _ => e_fz (e_call D_with_item.fn hr hgu rfl D_with_item.m D_with_item.kp D_with_item.b (a_cons (e_nm (pv 4)) (a_cons (e_nm (pv 6)) (a_cons (e_none) (a_nil))))))) (s_one (s_if (t_not (t_tru (e_fz (e_any rfl rfl m_any (r_u (e_fz (e_lc rfl nd (blkOk_by (own := [("own", 8)]) (by rfl)) rfl (i_vals (e_nm (pv 5))) (fun _ _ _ _ _ => i_on (w_nm nd rfl (.inl rfl) (by decide))) (fun _ _ _ _ _ => c_yes) (fun _ _ _ _ _ => e_eqR hr (r_u (e_ix hr (r_nm (pv 2)) (e_nm (pv 8)) (fun _ _ => rfl))) (r_nm (pv 1)))))))))) (s_one (s_do (e_up (L_append (r_nm (pv 3)) (a_cons (e_nm (pv 4)) (a_nil)))))) (s_nil)))) (s_nil)))) (s_one (s_ret (e_tuple rfl m_tuple (r_nm (pv 3))))))⟩
theorem sc_needed : FnScope ["table", "bit", "found", "half", "row", "alone", "some"] ["table", "bit"] (defScope (top 14)) := ⟨rfl, rfl, rfl, by decide +kernel, rfl, by decide +kernel, by decide +kernel⟩
theorem d_needed {f_needed : Addr} {fd_needed : FuncData} (Fu : Fun K "needed" "needed" (top 14) f_needed fd_needed) (h1 : mg "needed" = some (.ref f_needed)) (h2 : PySem.W.keepIn K (.ref f_needed) = true) (h3 : Binds K fd_needed ["table", "bit"] []) {f_primes : Addr} {fd_primes : FuncData} (D_primes : Df P w K mg base k "primes" f_primes fd_primes ["table", "bit"] 2 F_primes) {f_rows_filling : Addr} {fd_rows_filling : FuncData} (D_rows_filling : Df P w K mg base k "rows_filling" f_rows_filling fd_rows_filling ["half"] 1 F_rows_filling) {kk_half_text : Nat} {fk_half_text : Addr} {fdk_half_text : FuncData} (DK_half_text : Df P w K mg base kk_half_text "half_text" fk_half_text fdk_half_text ["half"] 1 F_half_text) (hk_half_text : kk_half_text + 1 ≤ k) (m_dict : mg "dict" = none) (m_len : mg "len" = none) (m_tuple : mg "tuple" = none) (m_sorted : mg "sorted" = none) :
    Df P w K mg base (k + 1) "needed" f_needed fd_needed ["table", "bit"] 2 F_needed :=
  have nd := sc_needed.nd
  ⟨h1, h2, h3, fnF (N := ["table", "bit", "found", "half", "row", "alone", "some"]) Fu sc_needed rfl rfl fun cdv A outer s H E hr hgu =>
    s_cons (s_set nd rfl (.inl rfl) (e_dnew)) (s_cons (s_for (vs := [3]) .never rfl (i_vals (e_fz (e_call D_primes.fn hr hgu rfl D_primes.m D_primes.kp D_primes.b (a_cons (e_nm (pv 0)) (a_cons (e_nm (pv 1)) (a_nil)))))) (i_on (w_nm nd rfl (.inl rfl) (by decide))) (s_one (s_for (vs := [4]) .never rfl (i_vals (e_fz (e_call D_rows_filling.fn hr hgu rfl D_rows_filling.m D_rows_filling.kp D_rows_filling.b (a_cons (e_nm (pv 3)) (a_nil))))) (i_on (w_nm nd rfl (.inl rfl) (by decide))) (s_one (s_do (e_up (L_append (r_u (e_sdf hr (r_nm (pv 2)) (a_cons (e_nm (pv 4)) (a_cons (e_pm (e_lst (a_nil))) (a_nil))))) (a_cons (e_nm (pv 3)) (a_nil))))))))) (s_cons (s_set nd rfl (.inl rfl) (e_dictP hr rfl m_dict (r_u (e_fz (e_lc rfl nd (blkOk_by (own := [("some", 6)]) (by rfl)) rfl (i_vlsF (e_nmF (pv 2))) (fun _ _ _ _ _ => i_on (w_nm nd rfl (.inl rfl) (by decide))) (fun _ _ _ _ _ => c_one (t_eqR hr (r_u (e_fz (e_len rfl m_len (r_nm (pv 6))))) (r_u (e_int)))) (fun _ _ _ _ _ => e_tup (a_cons (e_ix hr (r_nm (pv 6)) (e_int) (fun _ _ => rfl)) (a_cons (e_bool) (a_nil))))))))) (s_one (s_ret (e_tuple rfl m_tuple (r_u (e_fz (e_sortBy DK_half_text (hr.mono hk_half_text) hgu rfl m_sorted rfl (r_nm (pv 5))))))))))⟩
theorem sc_lie_together : FnScope ["table", "one", "other", "bit", "own"] ["table", "one", "other"] (defScope (top 15)) := ⟨rfl, rfl, rfl, by decide +kernel, rfl, by decide +kernel, by decide +kernel⟩
theorem d_lie_together {f_lie_together : Addr} {fd_lie_together : FuncData} (Fu : Fun K "lie_together" "lie_together" (top 15) f_lie_together fd_lie_together) (h1 : mg "lie_together" = some (.ref f_lie_together)) (h2 : PySem.W.keepIn K (.ref f_lie_together) = true) (h3 : Binds K fd_lie_together ["table", "one", "other"] []) {f_sure_on : Addr} {fd_sure_on : FuncData} (D_sure_on : Df P w K mg base k "sure_on" f_sure_on fd_sure_on ["table", "half"] 2 F_sure_on) (m_tuple : mg "tuple" = none) (m_zip : mg "zip" = none) :
    Df P w K mg base (k + 1) "lie_together" f_lie_together fd_lie_together ["table", "one", "other"] 3 F_lie_together :=
  have nd := sc_lie_together.nd
  ⟨h1, h2, h3, fnF (N := ["table", "one", "other", "bit", "own"]) Fu sc_lie_together rfl rfl fun cdv A outer s H E hr hgu =>
    s_one (s_ret (e_up (e_isnot (e_fz (e_call D_sure_on.fn hr hgu rfl D_sure_on.m D_sure_on.kp D_sure_on.b (a_cons (e_nm (pv 0)) (a_cons (e_fz (e_tuple rfl m_tuple (r_u (e_fz (e_lc rfl nd (blkOk_by (own := [("bit", 3), ("own", 4)]) (by rfl)) rfl (i_zip rfl m_zip (e_nm (pv 1)) (e_nm (pv 2))) (fun _ _ _ _ _ => i_tup rfl (ws_cons (w_nm nd rfl (.inl rfl) (by decide)) (ws_cons (w_nm nd rfl (.inl rfl) (by decide)) (ws_nil)))) (fun _ _ _ _ _ => c_yes) (fun _ _ _ _ _ => e_if (t_eqR hr (r_nm (pv 3)) (r_nm (pv 4))) (e_nm (pv 3)) (e_none))))))) (a_nil))))) (e_none))))⟩
theorem sc__law_mill : FnScope ["script", "seal", "deep", "cell", "own"] ["script", "seal"] (defScope (top 17)) := ⟨rfl, rfl, rfl, by decide +kernel, rfl, by decide +kernel, by decide +kernel⟩
theorem d__law_mill {f__law_mill : Addr} {fd__law_mill : FuncData} (Fu : Fun K "_law_mill" "_law_mill" (top 17) f__law_mill fd__law_mill) (h1 : mg "_law_mill" = some (.ref f__law_mill)) (h2 : PySem.W.keepIn K (.ref f__law_mill) = true) (h3 : Binds K fd__law_mill ["script", "seal"] []) (m_abs : mg "abs" = none) (m_int : mg "int" = none) (m_len : mg "len" = none) :
    Df P w K mg base (k + 1) "_law_mill" f__law_mill fd__law_mill ["script", "seal"] 2 F__law_mill :=
  have nd := sc__law_mill.nd
  ⟨h1, h2, h3, fnF (N := ["script", "seal", "deep", "cell", "own"]) Fu sc__law_mill rfl rfl fun cdv A outer s H E hr hgu =>
    s_cons (s_set nd rfl (.inl rfl) (e_lst (a_nil))) (s_cons (s_for (vs := [3]) .never rfl (i_vals (e_fz (e_sl (r_nm (pv 0)) (p_no) (p_at (e_int))))) (i_on (w_nm nd rfl (.inl rfl) (by decide))) (s_cons (s_set nd rfl (.inl rfl) (e_up (e_add (e_mul (e_int) (e_fz (e_abs rfl m_abs (a_cons (e_nm (pv 3)) (a_nil))))) (e_fz (e_int' rfl m_int (a_cons (e_lt (e_nm (pv 3)) (e_int)) (a_nil))))))) (s_cons (s_set nd rfl (.inl rfl) (e_up (e_mod (e_fz (e_int' rfl m_int (a_cons (e_add (e_add (e_mul (e_nm (pv 1)) (e_int)) (e_nm (pv 4))) (e_int)) (a_nil)))) (e_int)))) (s_one (s_if (t_ge (e_nm (pv 4)) (e_pow (e_int) (e_int))) (s_one (s_do (e_up (L_append (r_nm (pv 2)) (a_cons (e_nm (pv 4)) (a_nil)))))) (s_nil)))))) (s_one (s_ret (e_dspF (ps := [(kst (.str "deep"), nmP 2), (kst (.str "seal"), bin gAdd (nm 1) (fz (b1 kLen (rU (fz (slc (rN 0) (pNo) (pAt (kst (.int 60))))))))), (kst (.str "turn"), kst (.int 0))]) (pps_cons (e_str) (e_nmP (pv 2)) (pps_cons (e_str) (e_add (e_nm (pv 1)) (e_fz (e_len rfl m_len (r_u (e_fz (e_sl (r_nm (pv 0)) (p_no) (p_at (e_int)))))))) (pps_cons (e_str) (e_int) (pps_nil)))) rfl rfl (by simp) (by decide)))))⟩
theorem sc__law_take : FnScope ["mill", "many", "own", "number"] ["mill", "many"] (defScope (top 18)) := ⟨rfl, rfl, rfl, by decide +kernel, rfl, by decide +kernel, by decide +kernel⟩
theorem d__law_take {f__law_take : Addr} {fd__law_take : FuncData} (Fu : Fun K "_law_take" "_law_take" (top 18) f__law_take fd__law_take) (h1 : mg "_law_take" = some (.ref f__law_take)) (h2 : PySem.W.keepIn K (.ref f__law_take) = true) (h3 : Binds K fd__law_take ["mill", "many"] []) (m_int : mg "int" = none) :
    Df P w K mg base (k + 1) "_law_take" f__law_take fd__law_take ["mill", "many"] 2 F__law_take :=
  have nd := sc__law_take.nd
  ⟨h1, h2, h3, fnF (N := ["mill", "many", "own", "number"]) Fu sc__law_take rfl rfl fun cdv A outer s H E hr hgu =>
    s_cons (s_if (t_lt (e_nm (pv 1)) (e_int)) (s_one (s_ret (e_up (e_int)))) (s_nil)) (s_cons (s_if (t_neR hr (r_u (e_ix hr (r_nm (pv 0)) (e_str) (fun _ _ => rfl))) (r_u (e_fz (e_lst (a_nil))))) (s_cons (s_set nd rfl (.inl rfl) (e_up (L_pop (r_u (e_ix hr (r_nm (pv 0)) (e_str) (fun _ _ => rfl))) (a_cons (e_int) (a_nil))))) (s_cons (s_if (t_ge (e_nm (pv 2)) (e_nm (pv 1))) (s_one (s_do (e_up (L_insert (r_u (e_ix hr (r_nm (pv 0)) (e_str) (fun _ _ => rfl))) (a_cons (e_int) (a_cons (e_div (e_nm (pv 2)) (e_nm (pv 1))) (a_nil))))))) (s_nil)) (s_one (s_ret (e_up (e_mod (e_fz (e_int' rfl m_int (a_cons (e_nm (pv 2)) (a_nil)))) (e_nm (pv 1)))))))) (s_nil)) (s_cons (s_asg (e_add (e_ix hr (r_nm (pv 0)) (e_str) (fun _ _ => rfl)) (e_int)) (g_sub hr (r_nm (pv 0)) (e_str))) (s_cons (s_set nd rfl (.inl rfl) (e_up (e_mod (e_fz (e_int' rfl m_int (a_cons (e_add (e_add (e_mul (e_ix hr (r_nm (pv 0)) (e_str) (fun _ _ => rfl)) (e_int)) (e_mul (e_ix hr (r_nm (pv 0)) (e_str) (fun _ _ => rfl)) (e_int))) (e_int)) (a_nil)))) (e_int)))) (s_cons (s_set nd rfl (.inl rfl) (e_up (e_mod (e_fz (e_int' rfl m_int (a_cons (e_add (e_mul (e_nm (pv 3)) (e_nm (pv 3))) (e_ix hr (r_nm (pv 0)) (e_str) (fun _ _ => rfl))) (a_nil)))) (e_int)))) (s_cons (s_set nd rfl (.inl rfl) (e_up (e_mod (e_fz (e_int' rfl m_int (a_cons (e_add (e_mul (e_nm (pv 3)) (e_int)) (e_mul (e_ix hr (r_nm (pv 0)) (e_str) (fun _ _ => rfl)) (e_int))) (a_nil)))) (e_int)))) (s_one (s_ret (e_up (e_mod (e_fz (e_int' rfl m_int (a_cons (e_div (e_nm (pv 3)) (e_int)) (a_nil)))) (e_nm (pv 1)))))))))))⟩
theorem sc__law_one : FnScope ["mill", "some"] ["mill", "some"] (defScope (top 19)) := ⟨rfl, rfl, rfl, by decide +kernel, rfl, by decide +kernel, by decide +kernel⟩
theorem d__law_one {f__law_one : Addr} {fd__law_one : FuncData} (Fu : Fun K "_law_one" "_law_one" (top 19) f__law_one fd__law_one) (h1 : mg "_law_one" = some (.ref f__law_one)) (h2 : PySem.W.keepIn K (.ref f__law_one) = true) (h3 : Binds K fd__law_one ["mill", "some"] []) {f__law_take : Addr} {fd__law_take : FuncData} (D__law_take : Df P w K mg base k "_law_take" f__law_take fd__law_take ["mill", "many"] 2 F__law_take) (m_len : mg "len" = none) :
    Df P w K mg base (k + 1) "_law_one" f__law_one fd__law_one ["mill", "some"] 2 F__law_one :=
  have nd := sc__law_one.nd
  ⟨h1, h2, h3, fnF (N := ["mill", "some"]) Fu sc__law_one rfl rfl fun cdv A outer s H E hr hgu =>
    s_one (s_ret (e_up (e_ix hr (r_nm (pv 1)) (e_fz (e_call D__law_take.fn hr hgu rfl D__law_take.m D__law_take.kp D__law_take.b (a_cons (e_nm (pv 0)) (a_cons (e_fz (e_len rfl m_len (r_nm (pv 1)))) (a_nil))))) (fun _ _ => rfl))))⟩
theorem sc__law_mixed : FnScope ["mill", "some", "rest", "found"] ["mill", "some"] (defScope (top 20)) := ⟨rfl, rfl, rfl, by decide +kernel, rfl, by decide +kernel, by decide +kernel⟩
theorem d__law_mixed {f__law_mixed : Addr} {fd__law_mixed : FuncData} (Fu : Fun K "_law_mixed" "_law_mixed" (top 20) f__law_mixed fd__law_mixed) (h1 : mg "_law_mixed" = some (.ref f__law_mixed)) (h2 : PySem.W.keepIn K (.ref f__law_mixed) = true) (h3 : Binds K fd__law_mixed ["mill", "some"] []) {f__law_take : Addr} {fd__law_take : FuncData} (D__law_take : Df P w K mg base k "_law_take" f__law_take fd__law_take ["mill", "many"] 2 F__law_take) (m_list : mg "list" = none) (m_len : mg "len" = none) :
    Df P w K mg base (k + 1) "_law_mixed" f__law_mixed fd__law_mixed ["mill", "some"] 2 F__law_mixed :=
  have nd := sc__law_mixed.nd
  ⟨h1, h2, h3, fnF (N := ["mill", "some", "rest", "found"]) Fu sc__law_mixed rfl rfl fun cdv A outer s H E hr hgu =>
    s_cons (s_par rfl nd rfl rfl (by decide) rfl rfl (a_h (e_list rfl m_list (r_nm (pv 1))) (a_h (e_lst (a_nil)) (a_h0))) rfl) (s_cons (s_while .never (t_neR hr (r_nm (pv 2)) (r_u (e_fz (e_lst (a_nil))))) (s_one (s_do (e_up (L_append (r_nm (pv 3)) (a_cons (L_pop (r_nm (pv 2)) (a_cons (e_fz (e_call D__law_take.fn hr hgu rfl D__law_take.m D__law_take.kp D__law_take.b (a_cons (e_nm (pv 0)) (a_cons (e_fz (e_len rfl m_len (r_nm (pv 2)))) (a_nil))))) (a_nil))) (a_nil))))))) (s_one (s_ret (e_own (pv 3)))))⟩
theorem sc__law_rows : FnScope ["many", "rows", "place", "longer", "row"] ["many"] (defScope (top 21)) := ⟨rfl, rfl, rfl, by decide +kernel, rfl, by decide +kernel, by decide +kernel⟩
theorem d__law_rows {f__law_rows : Addr} {fd__law_rows : FuncData} (Fu : Fun K "_law_rows" "_law_rows" (top 21) f__law_rows fd__law_rows) (h1 : mg "_law_rows" = some (.ref f__law_rows)) (h2 : PySem.W.keepIn K (.ref f__law_rows) = true) (h3 : Binds K fd__law_rows ["many"] []) (m_range : mg "range" = none) (m_list : mg "list" = none) :
    Df P w K mg base (k + 1) "_law_rows" f__law_rows fd__law_rows ["many"] 1 F__law_rows :=
  have nd := sc__law_rows.nd
  ⟨h1, h2, h3, fnF (N := ["many", "rows", "place", "longer", "row"]) Fu sc__law_rows rfl rfl fun cdv A outer s H E hr hgu =>
    s_cons (s_set nd rfl (.inl rfl) (e_lst (a_cons (e_tup (a_nil)) (a_nil)))) (s_cons (s_for (vs := [2]) .never rfl (i_rg1 rfl m_range (e_nm (pv 0))) (i_on (w_nm nd rfl (.inl rfl) (by decide))) (s_cons (s_set nd rfl (.inl rfl) (e_lst (a_nil))) (s_cons (s_for (vs := [4]) .never rfl (i_vals (e_nm (pv 1))) (i_on (w_nm nd rfl (.inl rfl) (by decide))) (s_one (s_do (e_up (L_extend (r_nm (pv 3)) (a_cons (e_fz (e_lst (a_cons (e_add (e_nm (pv 4)) (e_tup (a_cons (e_int) (a_nil)))) (a_cons (e_add (e_nm (pv 4)) (e_tup (a_cons (e_int) (a_nil)))) (a_nil))))) (a_nil))))))) (s_one (s_set nd rfl (.inl rfl) (e_list rfl m_list (r_nm (pv 3)))))))) (s_one (s_ret (e_own (pv 1)))))⟩
theorem sc__law_number : FnScope ["row", "number", "bit"] ["row"] (defScope (top 22)) := ⟨rfl, rfl, rfl, by decide +kernel, rfl, by decide +kernel, by decide +kernel⟩
theorem d__law_number {f__law_number : Addr} {fd__law_number : FuncData} (Fu : Fun K "_law_number" "_law_number" (top 22) f__law_number fd__law_number) (h1 : mg "_law_number" = some (.ref f__law_number)) (h2 : PySem.W.keepIn K (.ref f__law_number) = true) (h3 : Binds K fd__law_number ["row"] []) :
    Df P w K mg base (k + 1) "_law_number" f__law_number fd__law_number ["row"] 1 F__law_number :=
  have nd := sc__law_number.nd
  ⟨h1, h2, h3, fnF (N := ["row", "number", "bit"]) Fu sc__law_number rfl rfl fun cdv A outer s H E hr hgu =>
    s_cons (s_set nd rfl (.inl rfl) (e_up (e_int))) (s_cons (s_for (vs := [2]) .never rfl (i_vals (e_nm (pv 0))) (i_on (w_nm nd rfl (.inl rfl) (by decide))) (s_one (s_set nd rfl (.inl rfl) (e_up (e_add (e_mul (e_int) (e_nm (pv 1))) (e_nm (pv 2))))))) (s_one (s_ret (e_own (pv 1)))))⟩
theorem sc__law_places : FnScope ["table", "many", "size"] ["table"] (defScope (top 23)) := ⟨rfl, rfl, rfl, by decide +kernel, rfl, by decide +kernel, by decide +kernel⟩
theorem d__law_places {f__law_places : Addr} {fd__law_places : FuncData} (Fu : Fun K "_law_places" "_law_places" (top 23) f__law_places fd__law_places) (h1 : mg "_law_places" = some (.ref f__law_places)) (h2 : PySem.W.keepIn K (.ref f__law_places) = true) (h3 : Binds K fd__law_places ["table"] []) (m_len : mg "len" = none) :
    Df P w K mg base (k + 1) "_law_places" f__law_places fd__law_places ["table"] 1 F__law_places :=
  have nd := sc__law_places.nd
  ⟨h1, h2, h3, fnF (N := ["table", "many", "size"]) Fu sc__law_places rfl rfl fun cdv A outer s H E hr hgu =>
    s_cons (s_asg (e_tup (a_cons (e_int) (a_cons (e_int) (a_nil)))) (g_tup rfl (gs_cons (g_nm nd rfl (.inl rfl)) (gs_cons (g_nm nd rfl (.inl rfl)) (gs_nil))))) (s_cons (s_while .never (t_lt (e_nm (pv 2)) (e_fz (e_len rfl m_len (r_nm (pv 0))))) (s_one (s_par rfl nd rfl rfl (by decide) rfl rfl (a_h (e_up (e_add (e_nm (pv 1)) (e_int))) (a_h (e_up (e_mul (e_int) (e_nm (pv 2)))) (a_h0))) rfl))) (s_one (s_ret (e_own (pv 1)))))⟩
theorem sc__law_halves : FnScope ["many", "found", "place", "longer", "half"] ["many"] (defScope (top 24)) := ⟨rfl, rfl, rfl, by decide +kernel, rfl, by decide +kernel, by decide +kernel⟩
theorem d__law_halves {f__law_halves : Addr} {fd__law_halves : FuncData} (Fu : Fun K "_law_halves" "_law_halves" (top 24) f__law_halves fd__law_halves) (h1 : mg "_law_halves" = some (.ref f__law_halves)) (h2 : PySem.W.keepIn K (.ref f__law_halves) = true) (h3 : Binds K fd__law_halves ["many"] []) (m_range : mg "range" = none) (m_list : mg "list" = none) :
    Df P w K mg base (k + 1) "_law_halves" f__law_halves fd__law_halves ["many"] 1 F__law_halves :=
  have nd := sc__law_halves.nd
  ⟨h1, h2, h3, fnF (N := ["many", "found", "place", "longer", "half"]) Fu sc__law_halves rfl rfl fun cdv A outer s H E hr hgu =>
    s_cons (s_set nd rfl (.inl rfl) (e_lst (a_cons (e_tup (a_nil)) (a_nil)))) (s_cons (s_for (vs := [2]) .never rfl (i_rg1 rfl m_range (e_nm (pv 0))) (i_on (w_nm nd rfl (.inl rfl) (by decide))) (s_cons (s_set nd rfl (.inl rfl) (e_lst (a_nil))) (s_cons (s_for (vs := [4]) .never rfl (i_vals (e_nm (pv 1))) (i_on (w_nm nd rfl (.inl rfl) (by decide))) (s_one (s_do (e_up (L_extend (r_nm (pv 3)) (a_cons (e_fz (e_lst (a_cons (e_add (e_nm (pv 4)) (e_tup (a_cons (e_none) (a_nil)))) (a_cons (e_add (e_nm (pv 4)) (e_tup (a_cons (e_int) (a_nil)))) (a_cons (e_add (e_nm (pv 4)) (e_tup (a_cons (e_int) (a_nil)))) (a_nil)))))) (a_nil))))))) (s_one (s_set nd rfl (.inl rfl) (e_list rfl m_list (r_nm (pv 3)))))))) (s_one (s_ret (e_own (pv 1)))))⟩
theorem sc__law_with : FnScope ["row", "place", "item"] ["row", "place", "item"] (defScope (top 25)) := ⟨rfl, rfl, rfl, by decide +kernel, rfl, by decide +kernel, by decide +kernel⟩
theorem d__law_with {f__law_with : Addr} {fd__law_with : FuncData} (Fu : Fun K "_law_with" "_law_with" (top 25) f__law_with fd__law_with) (h1 : mg "_law_with" = some (.ref f__law_with)) (h2 : PySem.W.keepIn K (.ref f__law_with) = true) (h3 : Binds K fd__law_with ["row", "place", "item"] []) :
    Df P w K mg base (k + 1) "_law_with" f__law_with fd__law_with ["row", "place", "item"] 3 F__law_with :=
  have nd := sc__law_with.nd
  ⟨h1, h2, h3, fnF (N := ["row", "place", "item"]) Fu sc__law_with rfl rfl fun cdv A outer s H E hr hgu =>
    s_one (s_ret (e_up (e_add (e_add (e_fz (e_sl (r_nm (pv 0)) (p_no) (p_at (e_nm (pv 1))))) (e_tup (a_cons (e_nm (pv 2)) (a_nil)))) (e_fz (e_sl (r_nm (pv 0)) (p_at (e_add (e_nm (pv 1)) (e_int))) (p_no))))))⟩
theorem sc__law_sure : FnScope ["table", "found", "half", "at", "low", "high"] ["table"] (defScope (top 26)) := ⟨rfl, rfl, rfl, by decide +kernel, rfl, by decide +kernel, by decide +kernel⟩
theorem d__law_sure {f__law_sure : Addr} {fd__law_sure : FuncData} (Fu : Fun K "_law_sure" "_law_sure" (top 26) f__law_sure fd__law_sure) (h1 : mg "_law_sure" = some (.ref f__law_sure)) (h2 : PySem.W.keepIn K (.ref f__law_sure) = true) (h3 : Binds K fd__law_sure ["table"] []) {f__law_halves : Addr} {fd__law_halves : FuncData} (D__law_halves : Df P w K mg base k "_law_halves" f__law_halves fd__law_halves ["many"] 1 F__law_halves) {f__law_places : Addr} {fd__law_places : FuncData} (D__law_places : Df P w K mg base k "_law_places" f__law_places fd__law_places ["table"] 1 F__law_places) {f__law_with : Addr} {fd__law_with : FuncData} (D__law_with : Df P w K mg base k "_law_with" f__law_with fd__law_with ["row", "place", "item"] 3 F__law_with) {f__law_number : Addr} {fd__law_number : FuncData} (D__law_number : Df P w K mg base k "_law_number" f__law_number fd__law_number ["row"] 1 F__law_number) :
    Df P w K mg base (k + 1) "_law_sure" f__law_sure fd__law_sure ["table"] 1 F__law_sure :=
  have nd := sc__law_sure.nd
  ⟨h1, h2, h3, fnF (N := ["table", "found", "half", "at", "low", "high"]) Fu sc__law_sure rfl rfl fun cdv A outer s H E hr hgu =>
    s_cons (s_set nd rfl (.inl rfl) (e_dnew)) (s_cons (s_for (vs := [2]) .never rfl (i_vals (e_fz (e_rev (r_u (e_fz (e_call D__law_halves.fn hr hgu rfl D__law_halves.m D__law_halves.kp D__law_halves.b (a_cons (e_fz (e_call D__law_places.fn hr hgu rfl D__law_places.m D__law_places.kp D__law_places.b (a_cons (e_nm (pv 0)) (a_nil)))) (a_nil)))))))) (i_on (w_nm nd rfl (.inl rfl) (by decide))) (s_one (s_if (t_in hr (e_none) (r_nm (pv 2)) rfl) (s_cons (s_set nd rfl (.inl rfl) (e_up (e_mth (km_index hr) (r_nm (pv 2)) (a_cons (e_none) (a_nil))))) (s_cons (s_par rfl nd rfl rfl (by decide) rfl rfl (a_h (e_up (e_ix hr (r_nm (pv 1)) (e_fz (e_call D__law_with.fn hr hgu rfl D__law_with.m D__law_with.kp D__law_with.b (a_cons (e_nm (pv 2)) (a_cons (e_nm (pv 3)) (a_cons (e_int) (a_nil)))))) (fun _ _ => rfl))) (a_h (e_up (e_ix hr (r_nm (pv 1)) (e_fz (e_call D__law_with.fn hr hgu rfl D__law_with.m D__law_with.kp D__law_with.b (a_cons (e_nm (pv 2)) (a_cons (e_nm (pv 3)) (a_cons (e_int) (a_nil)))))) (fun _ _ => rfl))) (a_h0))) rfl) (s_one (s_asg (e_if (t_eqR hr (r_nm (pv 4)) (r_nm (pv 5))) (e_nm (pv 4)) (e_none)) (g_sub hr (r_nm (pv 1)) (e_nm (pv 2))))))) (s_one (s_asg (e_ix hr (r_nm (pv 0)) (e_fz (e_call D__law_number.fn hr hgu rfl D__law_number.m D__law_number.kp D__law_number.b (a_cons (e_nm (pv 2)) (a_nil)))) (fun _ _ => rfl)) (g_sub hr (r_nm (pv 1)) (e_nm (pv 2)))))))) (s_one (s_ret (e_own (pv 1)))))⟩
theorem sc__law_known : FnScope ["word", "many", "found", "row", "ones", "half", "own", "place", "some"] ["word", "many"] (defScope (top 27)) := ⟨rfl, rfl, rfl, by decide +kernel, rfl, by decide +kernel, by decide +kernel⟩
theorem d__law_known {f__law_known : Addr} {fd__law_known : FuncData} (Fu : Fun K "_law_known" "_law_known" (top 27) f__law_known fd__law_known) (h1 : mg "_law_known" = some (.ref f__law_known)) (h2 : PySem.W.keepIn K (.ref f__law_known) = true) (h3 : Binds K fd__law_known ["word", "many"] []) {f__law_rows : Addr} {fd__law_rows : FuncData} (D__law_rows : Df P w K mg base k "_law_rows" f__law_rows fd__law_rows ["many"] 1 F__law_rows) {f__law_number : Addr} {fd__law_number : FuncData} (D__law_number : Df P w K mg base k "_law_number" f__law_number fd__law_number ["row"] 1 F__law_number) (m_int : mg "int" = none) (m_sum : mg "sum" = none) (m_any : mg "any" = none) (m_range : mg "range" = none) (m_list : mg "list" = none) (m_sorted : mg "sorted" = none) (m_tuple : mg "tuple" = none) :
    Df P w K mg base (k + 1) "_law_known" f__law_known fd__law_known ["word", "many"] 2 F__law_known :=
  have nd := sc__law_known.nd
  ⟨h1, h2, h3, fnF (N := ["word", "many", "found", "row", "ones", "half", "own", "place", "some"]) Fu sc__law_known rfl rfl fun cdv A outer s H E hr hgu =>
    s_cons (s_if (PW.pt (w_or (PW.pt (w_and (t_eqR hr (r_nm (pv 0)) (r_u (e_str))) (w_and1 (t_eqR hr (r_u (e_mod (e_fz (e_int' rfl m_int (a_cons (e_nm (pv 1)) (a_nil)))) (e_int))) (r_u (e_int)))))) (w_or1 (PW.pt (w_and (t_eqR hr (r_nm (pv 0)) (r_u (e_str))) (w_and1 (t_eqR hr (r_u (e_mod (e_fz (e_int' rfl m_int (a_cons (e_nm (pv 1)) (a_nil)))) (e_int))) (r_u (e_int))))))))) (s_one (s_ret (e_up (e_none)))) (s_nil)) (s_cons (s_if (PW.pt (w_and (t_eqR hr (r_nm (pv 0)) (r_u (e_str))) (w_and1 (t_notin hr (e_nm (pv 1)) (r_u (e_tup (a_cons (e_int) (a_cons (e_int) (a_nil))))) rfl)))) (s_one (s_ret (e_up (e_none)))) (s_nil)) (s_cons (s_set nd rfl (.inl rfl) (e_lst (a_nil))) (s_cons (s_for (vs := [3]) .never rfl (i_vals (e_fz (e_call D__law_rows.fn hr hgu rfl D__law_rows.m D__law_rows.kp D__law_rows.b (a_cons (e_nm (pv 1)) (a_nil))))) (i_on (w_nm nd rfl (.inr rfl) (by decide))) (s_cons (s_asg (e_tup (a_cons (e_fz (e_sum rfl rfl m_sum (r_nm (pv 3)))) (a_cons (e_div (e_nm (pv 1)) (e_int)) (a_nil)))) (g_tup rfl (gs_cons (g_nm nd rfl (.inl rfl)) (gs_cons (g_nm nd rfl (.inr rfl)) (gs_nil))))) (s_cons (s_if (t_eqR hr (r_nm (pv 0)) (r_u (e_str))) (s_one (s_set nd rfl (.inl rfl) (e_any rfl rfl m_any (r_u (e_fz (e_lc rfl nd (blkOk_by (own := [("place", 7)]) (by rfl)) rfl (i_rg1 rfl m_range (e_nm (pv 5))) (fun _ _ _ _ _ => i_on (w_nm nd rfl (.inl rfl) (by decide))) (fun _ _ _ _ _ => c_yes) (fun _ _ _ _ _ => e_eqR hr (r_u (e_add (e_ix hr (r_nm (pv 3)) (e_nm (pv 7)) (fun _ _ => rfl)) (e_ix hr (r_nm (pv 3)) (e_add (e_nm (pv 5)) (e_nm (pv 7))) (fun _ _ => rfl)))) (r_u (e_int))))))))) (s_one (s_if (t_eqR hr (r_nm (pv 0)) (r_u (e_str))) (s_one (s_set nd rfl (.inl rfl) (e_up (e_eqR hr (r_u (e_ix hr (r_nm (pv 3)) (e_add (e_if (t_eqR hr (r_nm (pv 1)) (r_u (e_int))) (e_int) (e_int)) (e_fz (e_call D__law_number.fn hr hgu rfl D__law_number.m D__law_number.kp D__law_number.b (a_cons (e_fz (e_sl (r_nm (pv 3)) (p_no) (p_at (e_if (t_eqR hr (r_nm (pv 1)) (r_u (e_int))) (e_int) (e_int))))) (a_nil))))) (fun _ _ => rfl))) (r_u (e_int)))))) (s_one (s_if (t_eqR hr (r_nm (pv 0)) (r_u (e_str))) (s_one (s_set nd rfl (.inl rfl) (e_up (e_orB (e_eqR hr (r_u (e_fz (e_list rfl m_list (r_nm (pv 3))))) (r_u (e_fz (e_sorted hr rfl m_sorted (r_nm (pv 3)))))) (e_one (e_eqR hr (r_u (e_fz (e_list rfl m_list (r_nm (pv 3))))) (r_u (e_fz (e_rev (r_u (e_fz (e_sorted hr rfl m_sorted (r_nm (pv 3)))))))))))))) (s_cons (s_set nd rfl (.inl rfl) (e_dspF (ps := [(kst (.str "all"), eqR false (rN 4) (rN 1)), (kst (.str "any"), bin iGt (nm 4) (kst (.int 0))), (kst (.str "first"), eqR false (rU (idx (rN 3) (kst (.int 0)))) (rU (kst (.int 1)))), (kst (.str "most"), bin iGt (bin gMul (kst (.int 2)) (nm 4)) (nm 1))]) (pps_cons (e_str) (e_eqR hr (r_nm (pv 4)) (r_nm (pv 1))) (pps_cons (e_str) (e_gt (e_nm (pv 4)) (e_int)) (pps_cons (e_str) (e_eqR hr (r_u (e_ix hr (r_nm (pv 3)) (e_int) (fun _ _ => rfl))) (r_u (e_int))) (pps_cons (e_str) (e_gt (e_mul (e_int) (e_nm (pv 4))) (e_nm (pv 1))) (pps_nil))))) rfl rfl (by simp) (by decide))) (s_one (s_set nd rfl (.inl rfl) (e_up (e_mth (km_get hr) (r_nm (pv 8)) (a_cons (e_nm (pv 0)) (a_cons (e_eqR hr (r_u (e_mod (e_fz (e_int' rfl m_int (a_cons (e_nm (pv 4)) (a_nil)))) (e_int))) (r_u (e_int))) (a_nil))))))))))))) (s_one (s_do (e_up (L_append (r_nm (pv 2)) (a_cons (e_fz (e_int' rfl m_int (a_cons (e_nm (pv 6)) (a_nil)))) (a_nil))))))))) (s_one (s_ret (e_tuple rfl m_tuple (r_nm (pv 2))))))))⟩
theorem sc__law_is_above : FnScope ["row", "other", "bit", "beside"] ["row", "other"] (defScope (top 29)) := ⟨rfl, rfl, rfl, by decide +kernel, rfl, by decide +kernel, by decide +kernel⟩
theorem d__law_is_above {f__law_is_above : Addr} {fd__law_is_above : FuncData} (Fu : Fun K "_law_is_above" "_law_is_above" (top 29) f__law_is_above fd__law_is_above) (h1 : mg "_law_is_above" = some (.ref f__law_is_above)) (h2 : PySem.W.keepIn K (.ref f__law_is_above) = true) (h3 : Binds K fd__law_is_above ["row", "other"] []) (m_all : mg "all" = none) (m_zip : mg "zip" = none) :
    Df P w K mg base (k + 1) "_law_is_above" f__law_is_above fd__law_is_above ["row", "other"] 2 F__law_is_above :=
  have nd := sc__law_is_above.nd
  ⟨h1, h2, h3, fnF (N := ["row", "other", "bit", "beside"]) Fu sc__law_is_above rfl rfl fun cdv A outer s H E hr hgu =>
    s_one (s_ret (e_all rfl rfl m_all (r_u (e_fz (e_lc rfl nd (blkOk_by (own := [("bit", 2), ("beside", 3)]) (by rfl)) rfl (i_zip rfl m_zip (e_nm (pv 0)) (e_nm (pv 1))) (fun _ _ _ _ _ => i_tup rfl (ws_cons (w_nm nd rfl (.inl rfl) (by decide)) (ws_cons (w_nm nd rfl (.inl rfl) (by decide)) (ws_nil)))) (fun _ _ _ _ _ => c_yes) (fun _ _ _ _ _ => e_ge (e_nm (pv 2)) (e_nm (pv 3))))))))⟩
theorem sc__law_table : FnScope ["mill", "many", "way", "rows", "words", "table", "row", "lot", "cells", "place", "some", "turn", "own", "at", "cell"] ["mill", "many"] (defScope (top 28)) := ⟨rfl, rfl, rfl, by decide +kernel, rfl, by decide +kernel, by decide +kernel⟩
theorem d__law_table {f__law_table : Addr} {fd__law_table : FuncData} (Fu : Fun K "_law_table" "_law_table" (top 28) f__law_table fd__law_table) (h1 : mg "_law_table" = some (.ref f__law_table)) (h2 : PySem.W.keepIn K (.ref f__law_table) = true) (h3 : Binds K fd__law_table ["mill", "many"] []) {f__law_take : Addr} {fd__law_take : FuncData} (D__law_take : Df P w K mg base k "_law_take" f__law_take fd__law_take ["mill", "many"] 2 F__law_take) {f__law_rows : Addr} {fd__law_rows : FuncData} (D__law_rows : Df P w K mg base k "_law_rows" f__law_rows fd__law_rows ["many"] 1 F__law_rows) {f__law_known : Addr} {fd__law_known : FuncData} (D__law_known : Df P w K mg base k "_law_known" f__law_known fd__law_known ["word", "many"] 2 F__law_known) {f__law_one : Addr} {fd__law_one : FuncData} (D__law_one : Df P w K mg base k "_law_one" f__law_one fd__law_one ["mill", "some"] 2 F__law_one) {f__law_mixed : Addr} {fd__law_mixed : FuncData} (D__law_mixed : Df P w K mg base k "_law_mixed" f__law_mixed fd__law_mixed ["mill", "some"] 2 F__law_mixed) {f__law_is_above : Addr} {fd__law_is_above : FuncData} (D__law_is_above : Df P w K mg base k "_law_is_above" f__law_is_above fd__law_is_above ["row", "other"] 2 F__law_is_above) {f__law_with : Addr} {fd__law_with : FuncData} (D__law_with : Df P w K mg base k "_law_with" f__law_with fd__law_with ["row", "place", "item"] 3 F__law_with) (m_tuple : mg "tuple" = none) (m_len : mg "len" = none) (m_list : mg "list" = none) (m_range : mg "range" = none) (m_int : mg "int" = none) (m_any : mg "any" = none) :
    Df P w K mg base (k + 1) "_law_table" f__law_table fd__law_table ["mill", "many"] 2 F__law_table :=
  have nd := sc__law_table.nd
  ⟨h1, h2, h3, fnF (N := ["mill", "many", "way", "rows", "words", "table", "row", "lot", "cells", "place", "some", "turn", "own", "at", "cell"]) Fu sc__law_table rfl rfl fun cdv A outer s H E hr hgu =>
    s_cons (s_asg (e_tup (a_cons (e_fz (e_call D__law_take.fn hr hgu rfl D__law_take.m D__law_take.kp D__law_take.b (a_cons (e_nm (pv 0)) (a_cons (e_int) (a_nil))))) (a_cons (e_fz (e_call D__law_rows.fn hr hgu rfl D__law_rows.m D__law_rows.kp D__law_rows.b (a_cons (e_nm (pv 1)) (a_nil)))) (a_nil)))) (g_tup rfl (gs_cons (g_nm nd rfl (.inl rfl)) (gs_cons (g_nm nd rfl (.inr rfl)) (gs_nil))))) (s_cons (s_set nd rfl (.inl rfl) (e_lst (a_cons (e_str) (a_cons (e_str) (a_cons (e_str) (a_cons (e_str) (a_cons (e_str) (a_cons (e_str) (a_cons (e_str) (a_cons (e_str) (a_nil))))))))))) (s_cons (s_set nd rfl (.inl rfl) (e_call D__law_known.fn hr hgu rfl D__law_known.m D__law_known.kp D__law_known.b (a_cons (e_fz (e_call D__law_one.fn hr hgu rfl D__law_one.m D__law_one.kp D__law_one.b (a_cons (e_nm (pv 0)) (a_cons (e_nm (pv 4)) (a_nil))))) (a_cons (e_nm (pv 1)) (a_nil))))) (s_cons (s_if (PW.pt (w_or (t_eqR hr (r_nm (pv 2)) (r_u (e_int))) (w_or1 (t_is (e_nm (pv 5)) (e_none))))) (s_one (s_set nd rfl (.inl rfl) (e_tuple rfl m_tuple (r_u (e_fz (e_lc rfl nd (blkOk_by (own := [("row", 6)]) (by rfl)) rfl (i_vals (e_nm (pv 3))) (fun _ _ _ _ _ => i_on (w_nm nd rfl (.inl rfl) (by decide))) (fun _ _ _ _ _ => c_yes) (fun _ _ _ _ _ => e_fz (e_call D__law_take.fn hr hgu rfl D__law_take.m D__law_take.kp D__law_take.b (a_cons (e_nm (pv 0)) (a_cons (e_int) (a_nil))))))))))) (s_one (s_if (t_eqR hr (r_nm (pv 2)) (r_u (e_int))) (s_one (s_set nd rfl (.inl rfl) (e_up (e_mul (e_tup (a_cons (e_fz (e_call D__law_take.fn hr hgu rfl D__law_take.m D__law_take.kp D__law_take.b (a_cons (e_nm (pv 0)) (a_cons (e_int) (a_nil))))) (a_nil))) (e_fz (e_len rfl m_len (r_nm (pv 3)))))))) (s_one (s_if (t_eqR hr (r_nm (pv 2)) (r_u (e_int))) (s_cons (s_set nd rfl (.inr rfl) (e_sl (r_u (e_fz (e_call D__law_mixed.fn hr hgu rfl D__law_mixed.m D__law_mixed.kp D__law_mixed.b (a_cons (e_nm (pv 0)) (a_cons (e_fz (e_lrg1 rfl rfl m_list rfl m_range (e_nm (pv 1)))) (a_nil)))))) (p_no) (p_at (e_add (e_int) (e_fz (e_call D__law_take.fn hr hgu rfl D__law_take.m D__law_take.kp D__law_take.b (a_cons (e_nm (pv 0)) (a_cons (e_nm (pv 1)) (a_nil))))))))) (s_cons (s_set nd rfl (.inr rfl) (e_dnew)) (s_cons (s_for (vs := [6]) .never rfl (i_vals (e_nm (pv 3))) (i_on (w_nm nd rfl (.inr rfl) (by decide))) (s_one (s_do (e_up (e_sdf hr (r_nm (pv 8)) (a_cons (e_fz (e_tuple rfl m_tuple (r_u (e_fz (e_lc rfl nd (blkOk_by (own := [("place", 9)]) (by rfl)) rfl (i_vals (e_nm (pv 7))) (fun _ _ _ _ _ => i_on (w_nm nd rfl (.inl rfl) (by decide))) (fun _ _ _ _ _ => c_yes) (fun _ _ _ _ _ => e_ix hr (r_nm (pv 6)) (e_nm (pv 9)) (fun _ _ => rfl))))))) (a_cons (e_fz (e_call D__law_take.fn hr hgu rfl D__law_take.m D__law_take.kp D__law_take.b (a_cons (e_nm (pv 0)) (a_cons (e_int) (a_nil))))) (a_nil)))))))) (s_one (s_set nd rfl (.inl rfl) (e_tuple rfl m_tuple (r_u (e_fz (e_lc rfl nd (blkOk_by (own := [("row", 6)]) (by rfl)) rfl (i_vals (e_nm (pv 3))) (fun _ _ _ _ _ => i_on (w_nm nd rfl (.inr rfl) (by decide))) (fun _ _ _ _ _ => c_yes) (fun _ _ _ _ _ => e_ix hr (r_nm (pv 8)) (e_fz (e_tuple rfl m_tuple (r_u (e_fz (e_lc rfl nd (blkOk_by (own := [("place", 9)]) (by rfl)) rfl (i_vals (e_nm (pv 7))) (fun _ _ _ _ _ => i_on (w_nm nd rfl (.inl rfl) (by decide))) (fun _ _ _ _ _ => c_yes) (fun _ _ _ _ _ => e_ix hr (r_nm (pv 6)) (e_nm (pv 9)) (fun _ _ => rfl))))))) (fun _ _ => rfl))))))))))) (s_one (s_if (t_eqR hr (r_nm (pv 2)) (r_u (e_int))) (s_cons (s_set nd rfl (.inr rfl) (e_lc rfl nd (blkOk_by (own := [("turn", 11)]) (by rfl)) rfl (i_rg1 rfl m_range (e_add (e_int) (e_fz (e_call D__law_take.fn hr hgu rfl D__law_take.m D__law_take.kp D__law_take.b (a_cons (e_nm (pv 0)) (a_cons (e_int) (a_nil))))))) (fun _ _ _ _ _ => i_on (w_nm nd rfl (.inl rfl) (by decide))) (fun _ _ _ _ _ => c_yes) (fun _ _ _ _ _ => e_fz (e_call D__law_one.fn hr hgu rfl D__law_one.m D__law_one.kp D__law_one.b (a_cons (e_nm (pv 0)) (a_cons (e_nm (pv 3)) (a_nil))))))) (s_one (s_set nd rfl (.inl rfl) (e_tuple rfl m_tuple (r_u (e_fz (e_lc rfl nd (blkOk_by (own := [("row", 6)]) (by rfl)) rfl (i_vals (e_nm (pv 3))) (fun _ _ _ _ _ => i_on (w_nm nd rfl (.inr rfl) (by decide))) (fun _ _ _ _ _ => c_yes) (fun _ _ _ _ _ => e_fz (e_int' rfl m_int (a_cons (e_fz (e_any rfl rfl m_any (r_u (e_fz (e_lc rfl nd (blkOk_by (own := [("own", 12)]) (by rfl)) rfl (i_vals (e_nm (pv 10))) (fun _ _ _ _ _ => i_on (w_nm nd rfl (.inl rfl) (by decide))) (fun _ _ _ _ _ => c_yes) (fun _ _ _ _ _ => e_fz (e_call D__law_is_above.fn hr hgu rfl D__law_is_above.m D__law_is_above.kp D__law_is_above.b (a_cons (e_nm (pv 6)) (a_cons (e_nm (pv 12)) (a_nil)))))))))) (a_nil))))))))))) (s_nil)))))))) (s_cons (s_if (t_eqR hr (r_u (e_fz (e_call D__law_take.fn hr hgu rfl D__law_take.m D__law_take.kp D__law_take.b (a_cons (e_nm (pv 0)) (a_cons (e_int) (a_nil)))))) (r_u (e_int))) (s_cons (s_set nd rfl (.inl rfl) (e_call D__law_take.fn hr hgu rfl D__law_take.m D__law_take.kp D__law_take.b (a_cons (e_nm (pv 0)) (a_cons (e_fz (e_len rfl m_len (r_nm (pv 5)))) (a_nil))))) (s_one (s_set nd rfl (.inl rfl) (e_call D__law_with.fn hr hgu rfl D__law_with.m D__law_with.kp D__law_with.b (a_cons (e_nm (pv 5)) (a_cons (e_nm (pv 13)) (a_cons (e_sub (e_int) (e_ix hr (r_nm (pv 5)) (e_nm (pv 13)) (fun _ _ => rfl))) (a_nil)))))))) (s_nil)) (s_one (s_ret (e_ifO (t_eqR hr (r_u (e_fz (e_call D__law_take.fn hr hgu rfl D__law_take.m D__law_take.kp D__law_take.b (a_cons (e_nm (pv 0)) (a_cons (e_int) (a_nil)))))) (r_u (e_int))) (e_tuple rfl m_tuple (r_u (e_fz (e_lc rfl nd (blkOk_by (own := [("cell", 14)]) (by rfl)) rfl (i_vals (e_nm (pv 5))) (fun _ _ _ _ _ => i_on (w_nm nd rfl (.inl rfl) (by decide))) (fun _ _ _ _ _ => c_yes) (fun _ _ _ _ _ => e_sub (e_int) (e_nm (pv 14))))))) (e_own (pv 5)))))))))⟩
theorem sc__law_same : FnScope ["told", "due"] ["told", "due"] (defScope (top 30)) := ⟨rfl, rfl, rfl, by decide +kernel, rfl, by decide +kernel, by decide +kernel⟩
theorem d__law_same {f__law_same : Addr} {fd__law_same : FuncData} (Fu : Fun K "_law_same" "_law_same" (top 30) f__law_same fd__law_same) (h1 : mg "_law_same" = some (.ref f__law_same)) (h2 : PySem.W.keepIn K (.ref f__law_same) = true) (h3 : Binds K fd__law_same ["told", "due"] []) (m_repr : mg "repr" = none) :
    Df P w K mg base (k + 1) "_law_same" f__law_same fd__law_same ["told", "due"] 2 F__law_same :=
  have nd := sc__law_same.nd
  ⟨h1, h2, h3, fnF (N := ["told", "due"]) Fu sc__law_same rfl rfl fun cdv A outer s H E hr hgu =>
    s_one (s_ret (e_up (e_eqR hr (r_u (e_fz (e_repr hr hgu rfl m_repr (a_cons (e_nm (pv 0)) (a_nil))))) (r_u (e_fz (e_repr hr hgu rfl m_repr (a_cons (e_nm (pv 1)) (a_nil))))))))⟩
theorem sc__law_filling : FnScope ["half", "found", "item", "some", "longer", "number", "bit"] ["half"] (defScope (top 31)) := ⟨rfl, rfl, rfl, by decide +kernel, rfl, by decide +kernel, by decide +kernel⟩
theorem d__law_filling {f__law_filling : Addr} {fd__law_filling : FuncData} (Fu : Fun K "_law_filling" "_law_filling" (top 31) f__law_filling fd__law_filling) (h1 : mg "_law_filling" = some (.ref f__law_filling)) (h2 : PySem.W.keepIn K (.ref f__law_filling) = true) (h3 : Binds K fd__law_filling ["half"] []) (m_list : mg "list" = none) :
    Df P w K mg base (k + 1) "_law_filling" f__law_filling fd__law_filling ["half"] 1 F__law_filling :=
  have nd := sc__law_filling.nd
  ⟨h1, h2, h3, fnF (N := ["half", "found", "item", "some", "longer", "number", "bit"]) Fu sc__law_filling rfl rfl fun cdv A outer s H E hr hgu =>
    s_cons (s_set nd rfl (.inl rfl) (e_lst (a_cons (e_int) (a_nil)))) (s_cons (s_for (vs := [2]) .never rfl (i_vals (e_nm (pv 0))) (i_on (w_nm nd rfl (.inl rfl) (by decide))) (s_cons (s_set nd rfl (.inl rfl) (e_ifO (t_is (e_nm (pv 2)) (e_none)) (e_lst (a_cons (e_int) (a_cons (e_int) (a_nil)))) (e_lst (a_cons (e_nm (pv 2)) (a_nil))))) (s_cons (s_set nd rfl (.inl rfl) (e_lst (a_nil))) (s_cons (s_for (vs := [5]) .never rfl (i_vals (e_nm (pv 1))) (i_on (w_nm nd rfl (.inr rfl) (by decide))) (s_one (s_do (e_up (L_extend (r_nm (pv 4)) (a_cons (e_fz (e_lc rfl nd (blkOk_by (own := [("bit", 6)]) (by rfl)) rfl (i_vals (e_nm (pv 3))) (fun _ _ _ _ _ => i_on (w_nm nd rfl (.inl rfl) (by decide))) (fun _ _ _ _ _ => c_yes) (fun _ _ _ _ _ => e_add (e_mul (e_int) (e_nm (pv 5))) (e_nm (pv 6))))) (a_nil))))))) (s_one (s_set nd rfl (.inl rfl) (e_list rfl m_list (r_nm (pv 4))))))))) (s_one (s_ret (e_own (pv 1)))))⟩
theorem sc__law_primes : FnScope ["table", "bit", "sure", "found", "half", "wider", "place", "item", "own"] ["table", "bit", "sure"] (defScope (top 32)) := ⟨rfl, rfl, rfl, by decide +kernel, rfl, by decide +kernel, by decide +kernel⟩
theorem d__law_primes {f__law_primes : Addr} {fd__law_primes : FuncData} (Fu : Fun K "_law_primes" "_law_primes" (top 32) f__law_primes fd__law_primes) (h1 : mg "_law_primes" = some (.ref f__law_primes)) (h2 : PySem.W.keepIn K (.ref f__law_primes) = true) (h3 : Binds K fd__law_primes ["table", "bit", "sure"] []) {f__law_halves : Addr} {fd__law_halves : FuncData} (D__law_halves : Df P w K mg base k "_law_halves" f__law_halves fd__law_halves ["many"] 1 F__law_halves) {f__law_places : Addr} {fd__law_places : FuncData} (D__law_places : Df P w K mg base k "_law_places" f__law_places fd__law_places ["table"] 1 F__law_places) {f__law_with : Addr} {fd__law_with : FuncData} (D__law_with : Df P w K mg base k "_law_with" f__law_with fd__law_with ["row", "place", "item"] 3 F__law_with) (m_enumerate : mg "enumerate" = none) (m_any : mg "any" = none) :
    Df P w K mg base (k + 1) "_law_primes" f__law_primes fd__law_primes ["table", "bit", "sure"] 3 F__law_primes :=
  have nd := sc__law_primes.nd
  ⟨h1, h2, h3, fnF (N := ["table", "bit", "sure", "found", "half", "wider", "place", "item", "own"]) Fu sc__law_primes rfl rfl fun cdv A outer s H E hr hgu =>
    s_cons (s_set nd rfl (.inl rfl) (e_lst (a_nil))) (s_cons (s_for (vs := [4]) .never rfl (i_vals (e_fz (e_call D__law_halves.fn hr hgu rfl D__law_halves.m D__law_halves.kp D__law_halves.b (a_cons (e_fz (e_call D__law_places.fn hr hgu rfl D__law_places.m D__law_places.kp D__law_places.b (a_cons (e_nm (pv 0)) (a_nil)))) (a_nil))))) (i_on (w_nm nd rfl (.inr rfl) (by decide))) (s_one (s_if (t_eqR hr (r_u (e_ix hr (r_nm (pv 2)) (e_nm (pv 4)) (fun _ _ => rfl))) (r_nm (pv 1))) (s_cons (s_setLc rfl nd rfl rfl rfl rfl (by decide +kernel) (blkOk_by (own := [("place", 6), ("item", 7)]) (by rfl)) rfl (i_enum rfl m_enumerate (e_nm (pv 4))) (fun _ _ _ _ _ => i_tup rfl (ws_cons (w_nm nd rfl (.inl rfl) (by decide)) (ws_cons (w_nm nd rfl (.inl rfl) (by decide)) (ws_nil)))) (fun _ _ _ _ _ => c_one (t_isnot (e_nm (pv 7)) (e_none))) (fun _ _ _ _ _ => e_fz (e_call D__law_with.fn hr hgu rfl D__law_with.m D__law_with.kp D__law_with.b (a_cons (e_nm (pv 4)) (a_cons (e_nm (pv 6)) (a_cons (e_none) (a_nil))))))) (s_one (s_if (t_not (t_tru (e_fz (e_any rfl rfl m_any (r_u (e_fz (e_lc rfl nd (blkOk_by (own := [("own", 8)]) (by rfl)) rfl (i_vals (e_nm (pv 5))) (fun _ _ _ _ _ => i_on (w_nm nd rfl (.inl rfl) (by decide))) (fun _ _ _ _ _ => c_yes) (fun _ _ _ _ _ => e_eqR hr (r_u (e_ix hr (r_nm (pv 2)) (e_nm (pv 8)) (fun _ _ => rfl))) (r_nm (pv 1)))))))))) (s_one (s_do (e_up (L_append (r_nm (pv 3)) (a_cons (e_nm (pv 4)) (a_nil)))))) (s_nil)))) (s_nil)))) (s_one (s_ret (e_own (pv 3)))))⟩
theorem sc__law_together : FnScope ["sure", "one", "other", "bit", "beside"] ["sure", "one", "other"] (defScope (top 33)) := ⟨rfl, rfl, rfl, by decide +kernel, rfl, by decide +kernel, by decide +kernel⟩
theorem d__law_together {f__law_together : Addr} {fd__law_together : FuncData} (Fu : Fun K "_law_together" "_law_together" (top 33) f__law_together fd__law_together) (h1 : mg "_law_together" = some (.ref f__law_together)) (h2 : PySem.W.keepIn K (.ref f__law_together) = true) (h3 : Binds K fd__law_together ["sure", "one", "other"] []) (m_tuple : mg "tuple" = none) (m_zip : mg "zip" = none) :
    Df P w K mg base (k + 1) "_law_together" f__law_together fd__law_together ["sure", "one", "other"] 3 F__law_together :=
  have nd := sc__law_together.nd
  ⟨h1, h2, h3, fnF (N := ["sure", "one", "other", "bit", "beside"]) Fu sc__law_together rfl rfl fun cdv A outer s H E hr hgu =>
    s_one (s_ret (e_up (e_isnot (e_ix hr (r_nm (pv 0)) (e_fz (e_tuple rfl m_tuple (r_u (e_fz (e_lc rfl nd (blkOk_by (own := [("bit", 3), ("beside", 4)]) (by rfl)) rfl (i_zip rfl m_zip (e_nm (pv 1)) (e_nm (pv 2))) (fun _ _ _ _ _ => i_tup rfl (ws_cons (w_nm nd rfl (.inl rfl) (by decide)) (ws_cons (w_nm nd rfl (.inl rfl) (by decide)) (ws_nil)))) (fun _ _ _ _ _ => c_yes) (fun _ _ _ _ _ => e_if (t_eqR hr (r_nm (pv 3)) (r_nm (pv 4))) (e_nm (pv 3)) (e_none))))))) (fun _ _ => rfl)) (e_none))))⟩
theorem sc__law_needed : FnScope ["some", "many", "found", "half", "number"] ["some"] (defScope (top 34)) := ⟨rfl, rfl, rfl, by decide +kernel, rfl, by decide +kernel, by decide +kernel⟩
theorem d__law_needed {f__law_needed : Addr} {fd__law_needed : FuncData} (Fu : Fun K "_law_needed" "_law_needed" (top 34) f__law_needed fd__law_needed) (h1 : mg "_law_needed" = some (.ref f__law_needed)) (h2 : PySem.W.keepIn K (.ref f__law_needed) = true) (h3 : Binds K fd__law_needed ["some"] []) {f__law_filling : Addr} {fd__law_filling : FuncData} (D__law_filling : Df P w K mg base k "_law_filling" f__law_filling fd__law_filling ["half"] 1 F__law_filling) (m_any : mg "any" = none) (m_tuple : mg "tuple" = none) :
    Df P w K mg base (k + 1) "_law_needed" f__law_needed fd__law_needed ["some"] 1 F__law_needed :=
  have nd := sc__law_needed.nd
  ⟨h1, h2, h3, fnF (N := ["some", "many", "found", "half", "number"]) Fu sc__law_needed rfl rfl fun cdv A outer s H E hr hgu =>
    s_cons (s_parC rfl nd rfl rfl (by decide) (.inr rfl) (.inl rfl) (a_h (e_dnew) (a_h (e_lst (a_nil)) (a_h0)))) (s_cons (s_for (vs := [3]) .never rfl (i_vals (e_nm (pv 0))) (i_on (w_nm nd rfl (.inl rfl) (by decide))) (s_one (s_for (vs := [4]) .never rfl (i_vals (e_fz (e_call D__law_filling.fn hr hgu rfl D__law_filling.m D__law_filling.kp D__law_filling.b (a_cons (e_nm (pv 3)) (a_nil))))) (i_on (w_nm nd rfl (.inl rfl) (by decide))) (s_one (s_asg (e_add (e_mth (km_get hr) (r_nm (pv 1)) (a_cons (e_nm (pv 4)) (a_cons (e_int) (a_nil)))) (e_int)) (g_sub hr (r_nm (pv 1)) (e_nm (pv 4)))))))) (s_cons (s_for (vs := [3]) .never rfl (i_vals (e_nm (pv 0))) (i_on (w_nm nd rfl (.inl rfl) (by decide))) (s_one (s_if (t_tru (e_fz (e_any rfl rfl m_any (r_u (e_fz (e_lc rfl nd (blkOk_by (own := [("number", 4)]) (by rfl)) rfl (i_vals (e_fz (e_call D__law_filling.fn hr hgu rfl D__law_filling.m D__law_filling.kp D__law_filling.b (a_cons (e_nm (pv 3)) (a_nil))))) (fun _ _ _ _ _ => i_on (w_nm nd rfl (.inl rfl) (by decide))) (fun _ _ _ _ _ => c_yes) (fun _ _ _ _ _ => e_eqR hr (r_u (e_ix hr (r_nm (pv 1)) (e_nm (pv 4)) (fun _ _ => rfl))) (r_u (e_int))))))))) (s_one (s_do (e_up (L_append (r_nm (pv 2)) (a_cons (e_nm (pv 3)) (a_nil)))))) (s_nil)))) (s_one (s_ret (e_tuple rfl m_tuple (r_nm (pv 2)))))))⟩
theorem sc__law_are_primes_right : FnScope ["table", "sure", "is_named", "bit", "some", "told"] ["table", "sure", "is_named"] (defScope (top 35)) := ⟨rfl, rfl, rfl, by decide +kernel, rfl, by decide +kernel, by decide +kernel⟩
theorem d__law_are_primes_right {f__law_are_primes_right : Addr} {fd__law_are_primes_right : FuncData} (Fu : Fun K "_law_are_primes_right" "_law_are_primes_right" (top 35) f__law_are_primes_right fd__law_are_primes_right) (h1 : mg "_law_are_primes_right" = some (.ref f__law_are_primes_right)) (h2 : PySem.W.keepIn K (.ref f__law_are_primes_right) = true) (h3 : Binds K fd__law_are_primes_right ["table", "sure", "is_named"] []) {f__law_primes : Addr} {fd__law_primes : FuncData} (D__law_primes : Df P w K mg base k "_law_primes" f__law_primes fd__law_primes ["table", "bit", "sure"] 3 F__law_primes) {f_primes : Addr} {fd_primes : FuncData} (D_primes : Df P w K mg base k "primes" f_primes fd_primes ["table", "bit"] 2 F_primes) {f_needed : Addr} {fd_needed : FuncData} (D_needed : Df P w K mg base k "needed" f_needed fd_needed ["table", "bit"] 2 F_needed) {f__law_same : Addr} {fd__law_same : FuncData} (D__law_same : Df P w K mg base k "_law_same" f__law_same fd__law_same ["told", "due"] 2 F__law_same) {f__law_needed : Addr} {fd__law_needed : FuncData} (D__law_needed : Df P w K mg base k "_law_needed" f__law_needed fd__law_needed ["some"] 1 F__law_needed) (K_o_primes_0_bit_table : KOrd K fd_primes ["table", "bit"] ["bit", "table"] o_primes_0_bit_table) (K_o_needed_0_bit_table : KOrd K fd_needed ["table", "bit"] ["bit", "table"] o_needed_0_bit_table) (m_tuple : mg "tuple" = none) :
    Df P w K mg base (k + 1) "_law_are_primes_right" f__law_are_primes_right fd__law_are_primes_right ["table", "sure", "is_named"] 3 F__law_are_primes_right :=
  have nd := sc__law_are_primes_right.nd
  ⟨h1, h2, h3, fnF (N := ["table", "sure", "is_named", "bit", "some", "told"]) Fu sc__law_are_primes_right rfl rfl fun cdv A outer s H E hr hgu =>
    s_cons (s_for (vs := [3]) .never rfl (i_vals (e_tup (a_cons (e_int) (a_cons (e_int) (a_nil))))) (i_on (w_nm nd rfl (.inl rfl) (by decide))) (s_cons (s_set nd rfl (.inl rfl) (e_tuple rfl m_tuple (r_u (e_fz (e_call D__law_primes.fn hr hgu rfl D__law_primes.m D__law_primes.kp D__law_primes.b (a_cons (e_nm (pv 0)) (a_cons (e_nm (pv 3)) (a_cons (e_nm (pv 1)) (a_nil))))))))) (s_cons (s_set nd rfl (.inl rfl) (e_lst (a_cons (e_fz (e_call D_primes.fn hr hgu rfl D_primes.m D_primes.kp D_primes.b (a_cons (e_nm (pv 0)) (a_cons (e_nm (pv 3)) (a_nil))))) (a_cons (e_fz (e_call D_needed.fn hr hgu rfl D_needed.m D_needed.kp D_needed.b (a_cons (e_nm (pv 0)) (a_cons (e_nm (pv 3)) (a_nil))))) (a_nil))))) (s_cons (s_if (t_tru (e_nm (pv 2))) (s_one (s_set nd rfl (.inl rfl) (e_lst (a_cons (e_fz (e_callK0 D_primes.fn hr hgu rfl D_primes.m D_primes.kp K_o_primes_0_bit_table (k_cons (e_nm (pv 3)) (k_cons (e_nm (pv 0)) (k_nil))))) (a_cons (e_fz (e_callK0 D_needed.fn hr hgu rfl D_needed.m D_needed.kp K_o_needed_0_bit_table (k_cons (e_nm (pv 3)) (k_cons (e_nm (pv 0)) (k_nil))))) (a_nil)))))) (s_nil)) (s_one (s_if (t_not (t_tru (e_fz (e_call D__law_same.fn hr hgu rfl D__law_same.m D__law_same.kp D__law_same.b (a_cons (e_nm (pv 5)) (a_cons (e_fz (e_lst (a_cons (e_nm (pv 4)) (a_cons (e_fz (e_call D__law_needed.fn hr hgu rfl D__law_needed.m D__law_needed.kp D__law_needed.b (a_cons (e_nm (pv 4)) (a_nil)))) (a_nil))))) (a_nil))))))) (s_one (s_ret (e_up (e_bool)))) (s_nil))))))) (s_one (s_ret (e_up (e_bool))))⟩
theorem sc__law_are_halves_right : FnScope ["mill", "table", "sure", "times", "halves_v", "rows", "turn", "half", "one", "other", "told", "due"] ["mill", "table", "sure", "times"] (defScope (top 36)) := ⟨rfl, rfl, rfl, by decide +kernel, rfl, by decide +kernel, by decide +kernel⟩
theorem d__law_are_halves_right {f__law_are_halves_right : Addr} {fd__law_are_halves_right : FuncData} (Fu : Fun K "_law_are_halves_right" "_law_are_halves_right" (top 36) f__law_are_halves_right fd__law_are_halves_right) (h1 : mg "_law_are_halves_right" = some (.ref f__law_are_halves_right)) (h2 : PySem.W.keepIn K (.ref f__law_are_halves_right) = true) (h3 : Binds K fd__law_are_halves_right ["mill", "table", "sure", "times"] []) {f__law_rows : Addr} {fd__law_rows : FuncData} (D__law_rows : Df P w K mg base k "_law_rows" f__law_rows fd__law_rows ["many"] 1 F__law_rows) {f__law_places : Addr} {fd__law_places : FuncData} (D__law_places : Df P w K mg base k "_law_places" f__law_places fd__law_places ["table"] 1 F__law_places) {f__law_one : Addr} {fd__law_one : FuncData} (D__law_one : Df P w K mg base k "_law_one" f__law_one fd__law_one ["mill", "some"] 2 F__law_one) {f_sure_on : Addr} {fd_sure_on : FuncData} (D_sure_on : Df P w K mg base k "sure_on" f_sure_on fd_sure_on ["table", "half"] 2 F_sure_on) {f_lie_together : Addr} {fd_lie_together : FuncData} (D_lie_together : Df P w K mg base k "lie_together" f_lie_together fd_lie_together ["table", "one", "other"] 3 F_lie_together) {f__law_together : Addr} {fd__law_together : FuncData} (D__law_together : Df P w K mg base k "_law_together" f__law_together fd__law_together ["sure", "one", "other"] 3 F__law_together) {f__law_same : Addr} {fd__law_same : FuncData} (D__law_same : Df P w K mg base k "_law_same" f__law_same fd__law_same ["told", "due"] 2 F__law_same) (K_o_sure_on_0_half_table : KOrd K fd_sure_on ["table", "half"] ["half", "table"] o_sure_on_0_half_table) (K_o_lie_together_0_other_one_table : KOrd K fd_lie_together ["table", "one", "other"] ["other", "one", "table"] o_lie_together_0_other_one_table) (m_list : mg "list" = none) (m_range : mg "range" = none) :
    Df P w K mg base (k + 1) "_law_are_halves_right" f__law_are_halves_right fd__law_are_halves_right ["mill", "table", "sure", "times"] 4 F__law_are_halves_right :=
  have nd := sc__law_are_halves_right.nd
  ⟨h1, h2, h3, fnF (N := ["mill", "table", "sure", "times", "halves_v", "rows", "turn", "half", "one", "other", "told", "due"]) Fu sc__law_are_halves_right rfl rfl fun cdv A outer s H E hr hgu =>
    s_cons (s_par rfl nd rfl rfl (by decide) rfl rfl (a_h (e_listD rfl rfl m_list (r_nm (pv 2))) (a_h (e_call D__law_rows.fn hr hgu rfl D__law_rows.m D__law_rows.kp D__law_rows.b (a_cons (e_fz (e_call D__law_places.fn hr hgu rfl D__law_places.m D__law_places.kp D__law_places.b (a_cons (e_nm (pv 1)) (a_nil)))) (a_nil))) (a_h0))) rfl) (s_cons (s_for (vs := [6]) .never rfl (i_rg1 rfl m_range (e_nm (pv 3))) (i_on (w_nm nd rfl (.inl rfl) (by decide))) (s_cons (s_par3 rfl nd rfl rfl rfl (by decide) (by decide) (by decide) rfl rfl rfl (a_h (e_call D__law_one.fn hr hgu rfl D__law_one.m D__law_one.kp D__law_one.b (a_cons (e_nm (pv 0)) (a_cons (e_nm (pv 4)) (a_nil)))) (a_h (e_call D__law_one.fn hr hgu rfl D__law_one.m D__law_one.kp D__law_one.b (a_cons (e_nm (pv 0)) (a_cons (e_nm (pv 5)) (a_nil)))) (a_h (e_call D__law_one.fn hr hgu rfl D__law_one.m D__law_one.kp D__law_one.b (a_cons (e_nm (pv 0)) (a_cons (e_nm (pv 5)) (a_nil)))) (a_h0)))) rfl) (s_cons (s_set nd rfl (.inl rfl) (e_lst (a_cons (e_fz (e_call D_sure_on.fn hr hgu rfl D_sure_on.m D_sure_on.kp D_sure_on.b (a_cons (e_nm (pv 1)) (a_cons (e_nm (pv 7)) (a_nil))))) (a_cons (e_fz (e_call D_lie_together.fn hr hgu rfl D_lie_together.m D_lie_together.kp D_lie_together.b (a_cons (e_nm (pv 1)) (a_cons (e_nm (pv 8)) (a_cons (e_nm (pv 9)) (a_nil)))))) (a_nil))))) (s_cons (s_if (t_eqR hr (r_nm (pv 6)) (r_u (e_int))) (s_one (s_set nd rfl (.inl rfl) (e_lst (a_cons (e_fz (e_callK0 D_sure_on.fn hr hgu rfl D_sure_on.m D_sure_on.kp K_o_sure_on_0_half_table (k_cons (e_nm (pv 7)) (k_cons (e_nm (pv 1)) (k_nil))))) (a_cons (e_fz (e_callK0 D_lie_together.fn hr hgu rfl D_lie_together.m D_lie_together.kp K_o_lie_together_0_other_one_table (k_cons (e_nm (pv 9)) (k_cons (e_nm (pv 8)) (k_cons (e_nm (pv 1)) (k_nil)))))) (a_nil)))))) (s_nil)) (s_cons (s_do (e_up (L_append (r_nm (pv 10)) (a_cons (e_fz (e_call D_lie_together.fn hr hgu rfl D_lie_together.m D_lie_together.kp D_lie_together.b (a_cons (e_nm (pv 1)) (a_cons (e_nm (pv 9)) (a_cons (e_nm (pv 8)) (a_nil)))))) (a_nil))))) (s_cons (s_set nd rfl (.inl rfl) (e_call D__law_together.fn hr hgu rfl D__law_together.m D__law_together.kp D__law_together.b (a_cons (e_nm (pv 2)) (a_cons (e_nm (pv 8)) (a_cons (e_nm (pv 9)) (a_nil)))))) (s_one (s_if (t_not (t_tru (e_fz (e_call D__law_same.fn hr hgu rfl D__law_same.m D__law_same.kp D__law_same.b (a_cons (e_nm (pv 10)) (a_cons (e_fz (e_lst (a_cons (e_ix hr (r_nm (pv 2)) (e_nm (pv 7)) (fun _ _ => rfl)) (a_cons (e_nm (pv 11)) (a_cons (e_nm (pv 11)) (a_nil)))))) (a_nil))))))) (s_one (s_ret (e_up (e_bool)))) (s_nil))))))))) (s_one (s_ret (e_up (e_bool)))))⟩
theorem sc_law : FnScope ["script", "mill", "table", "sure", "bit", "turn", "kept"] ["script"] (defScope (top 37)) := ⟨rfl, rfl, rfl, by decide +kernel, rfl, by decide +kernel, by decide +kernel⟩
theorem d_law {f_law : Addr} {fd_law : FuncData} (Fu : Fun K "law" "law" (top 37) f_law fd_law) (h1 : mg "law" = some (.ref f_law)) (h2 : PySem.W.keepIn K (.ref f_law) = true) (h3 : Binds K fd_law ["script"] []) {f__law_mill : Addr} {fd__law_mill : FuncData} (D__law_mill : Df P w K mg base k "_law_mill" f__law_mill fd__law_mill ["script", "seal"] 2 F__law_mill) {f__law_take : Addr} {fd__law_take : FuncData} (D__law_take : Df P w K mg base k "_law_take" f__law_take fd__law_take ["mill", "many"] 2 F__law_take) {f__law_table : Addr} {fd__law_table : FuncData} (D__law_table : Df P w K mg base k "_law_table" f__law_table fd__law_table ["mill", "many"] 2 F__law_table) {f__law_sure : Addr} {fd__law_sure : FuncData} (D__law_sure : Df P w K mg base k "_law_sure" f__law_sure fd__law_sure ["table"] 1 F__law_sure) {f__law_same : Addr} {fd__law_same : FuncData} (D__law_same : Df P w K mg base k "_law_same" f__law_same fd__law_same ["told", "due"] 2 F__law_same) {f_primes : Addr} {fd_primes : FuncData} (D_primes : Df P w K mg base k "primes" f_primes fd_primes ["table", "bit"] 2 F_primes) {f__law_primes : Addr} {fd__law_primes : FuncData} (D__law_primes : Df P w K mg base k "_law_primes" f__law_primes fd__law_primes ["table", "bit", "sure"] 3 F__law_primes) {f__law_one : Addr} {fd__law_one : FuncData} (D__law_one : Df P w K mg base k "_law_one" f__law_one fd__law_one ["mill", "some"] 2 F__law_one) {f__law_are_primes_right : Addr} {fd__law_are_primes_right : FuncData} (D__law_are_primes_right : Df P w K mg base k "_law_are_primes_right" f__law_are_primes_right fd__law_are_primes_right ["table", "sure", "is_named"] 3 F__law_are_primes_right) {f__law_are_halves_right : Addr} {fd__law_are_halves_right : FuncData} (D__law_are_halves_right : Df P w K mg base k "_law_are_halves_right" f__law_are_halves_right fd__law_are_halves_right ["mill", "table", "sure", "times"] 4 F__law_are_halves_right) (m_tuple : mg "tuple" = none) (m_range : mg "range" = none) (m_repr : mg "repr" = none) :
    Df P w K mg base (k + 1) "law" f_law fd_law ["script"] 1 F_law_v7 :=
  have nd := sc_law.nd
  ⟨h1, h2, h3, fnF (N := ["script", "mill", "table", "sure", "bit", "turn", "kept"]) Fu sc_law rfl rfl fun cdv A outer s H E hr hgu =>
    s_cons (s_set nd rfl (.inl rfl) (e_call D__law_mill.fn hr hgu rfl D__law_mill.m D__law_mill.kp D__law_mill.b (a_cons (e_nm (pv 0)) (a_cons (e_int) (a_nil))))) (s_cons (s_if (t_eqR hr (r_u (e_fz (e_call D__law_take.fn hr hgu rfl D__law_take.m D__law_take.kp D__law_take.b (a_cons (e_nm (pv 1)) (a_cons (e_int) (a_nil)))))) (r_u (e_int))) (s_cons (s_set nd rfl (.inl rfl) (e_call D__law_table.fn hr hgu rfl D__law_table.m D__law_table.kp D__law_table.b (a_cons (e_nm (pv 1)) (a_cons (e_int) (a_nil))))) (s_cons (s_par rfl nd rfl rfl (by decide) rfl rfl (a_h (e_call D__law_sure.fn hr hgu rfl D__law_sure.m D__law_sure.kp D__law_sure.b (a_cons (e_nm (pv 2)) (a_nil))) (a_h (e_call D__law_take.fn hr hgu rfl D__law_take.m D__law_take.kp D__law_take.b (a_cons (e_nm (pv 1)) (a_cons (e_int) (a_nil)))) (a_h0))) rfl) (s_one (s_ret (e_call D__law_same.fn hr hgu rfl D__law_same.m D__law_same.kp D__law_same.b (a_cons (e_fz (e_call D_primes.fn hr hgu rfl D_primes.m D_primes.kp D_primes.b (a_cons (e_nm (pv 2)) (a_cons (e_nm (pv 4)) (a_nil))))) (a_cons (e_fz (e_tuple rfl m_tuple (r_u (e_fz (e_call D__law_primes.fn hr hgu rfl D__law_primes.m D__law_primes.kp D__law_primes.b (a_cons (e_nm (pv 2)) (a_cons (e_nm (pv 4)) (a_cons (e_nm (pv 3)) (a_nil))))))))) (a_nil)))))))) (s_nil)) (s_cons (s_for (vs := [5]) .never rfl (i_rg1 rfl m_range (e_int)) (i_on (w_nm nd rfl (.inl rfl) (by decide))) (s_cons (s_set nd rfl (.inl rfl) (e_call D__law_table.fn hr hgu rfl D__law_table.m D__law_table.kp D__law_table.b (a_cons (e_nm (pv 1)) (a_cons (e_fz (e_call D__law_one.fn hr hgu rfl D__law_one.m D__law_one.kp D__law_one.b (a_cons (e_nm (pv 1)) (a_cons (e_fz (e_lst (a_cons (e_int) (a_cons (e_int) (a_cons (e_int) (a_cons (e_int) (a_cons (e_int) (a_nil)))))))) (a_nil))))) (a_nil))))) (s_cons (s_par rfl nd rfl rfl (by decide) rfl rfl (a_h (e_call D__law_sure.fn hr hgu rfl D__law_sure.m D__law_sure.kp D__law_sure.b (a_cons (e_nm (pv 2)) (a_nil))) (a_h (e_repr hr hgu rfl m_repr (a_cons (e_nm (pv 2)) (a_nil))) (a_h0))) rfl) (s_cons (s_if (t_not (t_tru (e_fz (e_call D__law_are_primes_right.fn hr hgu rfl D__law_are_primes_right.m D__law_are_primes_right.kp D__law_are_primes_right.b (a_cons (e_nm (pv 2)) (a_cons (e_nm (pv 3)) (a_cons (e_eqR hr (r_nm (pv 5)) (r_u (e_int))) (a_nil)))))))) (s_one (s_ret (e_up (e_bool)))) (s_nil)) (s_one (s_if (PW.pt (w_or (t_not (t_tru (e_fz (e_call D__law_are_halves_right.fn hr hgu rfl D__law_are_halves_right.m D__law_are_halves_right.kp D__law_are_halves_right.b (a_cons (e_nm (pv 1)) (a_cons (e_nm (pv 2)) (a_cons (e_nm (pv 3)) (a_cons (e_int) (a_nil))))))))) (w_or1 (t_neR hr (r_u (e_fz (e_repr hr hgu rfl m_repr (a_cons (e_nm (pv 2)) (a_nil))))) (r_nm (pv 6)))))) (s_one (s_ret (e_up (e_bool)))) (s_nil))))))) (s_one (s_ret (e_up (e_bool))))))⟩
theorem chain {fa : Addr} {h : Heap} (A_places_of : AtK K "places_of" (top 1)) (A_number_of : AtK K "number_of" (top 2)) (A_value_at : AtK K "value_at" (top 3)) (A_rows_filling : AtK K "rows_filling" (top 4)) (A_half_text : AtK K "half_text" (top 6)) (A_halves : AtK K "halves" (top 8)) (A_sure_on : AtK K "sure_on" (top 9)) (A_with_item : AtK K "with_item" (top 10)) (A_free_in : AtK K "free_in" (top 12)) (A_sure_values : AtK K "sure_values" (top 11)) (A_primes : AtK K "primes" (top 13)) (A_needed : AtK K "needed" (top 14)) (A_lie_together : AtK K "lie_together" (top 15)) (A__law_mill : AtK K "_law_mill" (top 17)) (A__law_take : AtK K "_law_take" (top 18)) (A__law_one : AtK K "_law_one" (top 19)) (A__law_mixed : AtK K "_law_mixed" (top 20)) (A__law_rows : AtK K "_law_rows" (top 21)) (A__law_number : AtK K "_law_number" (top 22)) (A__law_places : AtK K "_law_places" (top 23)) (A__law_halves : AtK K "_law_halves" (top 24)) (A__law_with : AtK K "_law_with" (top 25)) (A__law_sure : AtK K "_law_sure" (top 26)) (A__law_known : AtK K "_law_known" (top 27)) (A__law_is_above : AtK K "_law_is_above" (top 29)) (A__law_table : AtK K "_law_table" (top 28)) (A__law_same : AtK K "_law_same" (top 30)) (A__law_filling : AtK K "_law_filling" (top 31)) (A__law_primes : AtK K "_law_primes" (top 32)) (A__law_together : AtK K "_law_together" (top 33)) (A__law_needed : AtK K "_law_needed" (top 34)) (A__law_are_primes_right : AtK K "_law_are_primes_right" (top 35)) (A__law_are_halves_right : AtK K "_law_are_halves_right" (top 36)) (A_law : AtK K "law" (top 37)) (Z_len : PySem.W.nsIn K mainGlobals "len" = some none) (Z_tuple : PySem.W.nsIn K mainGlobals "tuple" = some none) (Z_sorted : PySem.W.nsIn K mainGlobals "sorted" = some none) (Z_str : PySem.W.nsIn K mainGlobals "str" = some none) (Z_range : PySem.W.nsIn K mainGlobals "range" = some none) (Z_enumerate : PySem.W.nsIn K mainGlobals "enumerate" = some none) (Z_any : PySem.W.nsIn K mainGlobals "any" = some none) (Z_dict : PySem.W.nsIn K mainGlobals "dict" = some none) (Z_zip : PySem.W.nsIn K mainGlobals "zip" = some none) (Z_abs : PySem.W.nsIn K mainGlobals "abs" = some none) (Z_int : PySem.W.nsIn K mainGlobals "int" = some none) (Z_list : PySem.W.nsIn K mainGlobals "list" = some none) (Z_sum : PySem.W.nsIn K mainGlobals "sum" = some none) (Z_all : PySem.W.nsIn K mainGlobals "all" = some none) (Z_repr : PySem.W.nsIn K mainGlobals "repr" = some none) (inK : K.In h) (ns : h.Ns mainGlobals mg) (hfa : mg "law" = some (.ref fa)) (plain : ∀ ns : List Int, ns.length ≤ 63 → ∃ S, F_law_v7 [.scr ns] [] = some (.u (.v (.bool true)), S)) :
    ∃ fd : FuncData, (∀ (s : Shared) (u : Value), BindsTo s fd ⟨[u], []⟩ [("script", u)]) ∧ ∀ base : Heap, K.In base → base.Ns mainGlobals mg → FnG P w K mg base 74 fa fd ["script"] (spLaw K) := by
  have m_len := PySem.W.mg_none_of inK ns Z_len
  have m_tuple := PySem.W.mg_none_of inK ns Z_tuple
  have m_sorted := PySem.W.mg_none_of inK ns Z_sorted
  have m_str := PySem.W.mg_none_of inK ns Z_str
  have m_range := PySem.W.mg_none_of inK ns Z_range
  have m_enumerate := PySem.W.mg_none_of inK ns Z_enumerate
  have m_any := PySem.W.mg_none_of inK ns Z_any
  have m_dict := PySem.W.mg_none_of inK ns Z_dict
  have m_zip := PySem.W.mg_none_of inK ns Z_zip
  have m_abs := PySem.W.mg_none_of inK ns Z_abs
  have m_int := PySem.W.mg_none_of inK ns Z_int
  have m_list := PySem.W.mg_none_of inK ns Z_list
  have m_sum := PySem.W.mg_none_of inK ns Z_sum
  have m_all := PySem.W.mg_none_of inK ns Z_all
  have m_repr := PySem.W.mg_none_of inK ns Z_repr
  obtain ⟨f_places_of, fd_places_of, g_places_of, Fu_places_of⟩ := A_places_of.get inK ns
  have b_places_of := Fu_places_of.binds (ps := ["table"]) fun _ _ _ _ _ _ us hl => match us, hl with | [_], _ => rfl
  obtain ⟨f_number_of, fd_number_of, g_number_of, Fu_number_of⟩ := A_number_of.get inK ns
  have b_number_of := Fu_number_of.binds (ps := ["row"]) fun _ _ _ _ _ _ us hl => match us, hl with | [_], _ => rfl
  obtain ⟨f_value_at, fd_value_at, g_value_at, Fu_value_at⟩ := A_value_at.get inK ns
  have b_value_at := Fu_value_at.binds (ps := ["table", "row"]) fun _ _ _ _ _ _ us hl => match us, hl with | [_, _], _ => rfl
  obtain ⟨f_rows_filling, fd_rows_filling, g_rows_filling, Fu_rows_filling⟩ := A_rows_filling.get inK ns
  have b_rows_filling := Fu_rows_filling.binds (ps := ["half"]) fun _ _ _ _ _ _ us hl => match us, hl with | [_], _ => rfl
  obtain ⟨f_half_text, fd_half_text, g_half_text, Fu_half_text⟩ := A_half_text.get inK ns
  have b_half_text := Fu_half_text.binds (ps := ["half"]) fun _ _ _ _ _ _ us hl => match us, hl with | [_], _ => rfl
  obtain ⟨f_halves, fd_halves, g_halves, Fu_halves⟩ := A_halves.get inK ns
  have b_halves := Fu_halves.binds (ps := ["many"]) fun _ _ _ _ _ _ us hl => match us, hl with | [_], _ => rfl
  obtain ⟨f_sure_on, fd_sure_on, g_sure_on, Fu_sure_on⟩ := A_sure_on.get inK ns
  have b_sure_on := Fu_sure_on.binds (ps := ["table", "half"]) fun _ _ _ _ _ _ us hl => match us, hl with | [_, _], _ => rfl
  obtain ⟨f_with_item, fd_with_item, g_with_item, Fu_with_item⟩ := A_with_item.get inK ns
  have b_with_item := Fu_with_item.binds (ps := ["half", "place", "item"]) fun _ _ _ _ _ _ us hl => match us, hl with | [_, _, _], _ => rfl
  obtain ⟨f_free_in, fd_free_in, g_free_in, Fu_free_in⟩ := A_free_in.get inK ns
  have b_free_in := Fu_free_in.binds (ps := ["half"]) fun _ _ _ _ _ _ us hl => match us, hl with | [_], _ => rfl
  obtain ⟨f_sure_values, fd_sure_values, g_sure_values, Fu_sure_values⟩ := A_sure_values.get inK ns
  have b_sure_values := Fu_sure_values.binds (ps := ["table"]) fun _ _ _ _ _ _ us hl => match us, hl with | [_], _ => rfl
  obtain ⟨f_primes, fd_primes, g_primes, Fu_primes⟩ := A_primes.get inK ns
  have b_primes := Fu_primes.binds (ps := ["table", "bit"]) fun _ _ _ _ _ _ us hl => match us, hl with | [_, _], _ => rfl
  obtain ⟨f_needed, fd_needed, g_needed, Fu_needed⟩ := A_needed.get inK ns
  have b_needed := Fu_needed.binds (ps := ["table", "bit"]) fun _ _ _ _ _ _ us hl => match us, hl with | [_, _], _ => rfl
  obtain ⟨f_lie_together, fd_lie_together, g_lie_together, Fu_lie_together⟩ := A_lie_together.get inK ns
  have b_lie_together := Fu_lie_together.binds (ps := ["table", "one", "other"]) fun _ _ _ _ _ _ us hl => match us, hl with | [_, _, _], _ => rfl
  obtain ⟨f__law_mill, fd__law_mill, g__law_mill, Fu__law_mill⟩ := A__law_mill.get inK ns
  have b__law_mill := Fu__law_mill.binds (ps := ["script", "seal"]) fun _ _ _ _ _ _ us hl => match us, hl with | [_, _], _ => rfl
  obtain ⟨f__law_take, fd__law_take, g__law_take, Fu__law_take⟩ := A__law_take.get inK ns
  have b__law_take := Fu__law_take.binds (ps := ["mill", "many"]) fun _ _ _ _ _ _ us hl => match us, hl with | [_, _], _ => rfl
  obtain ⟨f__law_one, fd__law_one, g__law_one, Fu__law_one⟩ := A__law_one.get inK ns
  have b__law_one := Fu__law_one.binds (ps := ["mill", "some"]) fun _ _ _ _ _ _ us hl => match us, hl with | [_, _], _ => rfl
  obtain ⟨f__law_mixed, fd__law_mixed, g__law_mixed, Fu__law_mixed⟩ := A__law_mixed.get inK ns
  have b__law_mixed := Fu__law_mixed.binds (ps := ["mill", "some"]) fun _ _ _ _ _ _ us hl => match us, hl with | [_, _], _ => rfl
  obtain ⟨f__law_rows, fd__law_rows, g__law_rows, Fu__law_rows⟩ := A__law_rows.get inK ns
  have b__law_rows := Fu__law_rows.binds (ps := ["many"]) fun _ _ _ _ _ _ us hl => match us, hl with | [_], _ => rfl
  obtain ⟨f__law_number, fd__law_number, g__law_number, Fu__law_number⟩ := A__law_number.get inK ns
  have b__law_number := Fu__law_number.binds (ps := ["row"]) fun _ _ _ _ _ _ us hl => match us, hl with | [_], _ => rfl
  obtain ⟨f__law_places, fd__law_places, g__law_places, Fu__law_places⟩ := A__law_places.get inK ns
  have b__law_places := Fu__law_places.binds (ps := ["table"]) fun _ _ _ _ _ _ us hl => match us, hl with | [_], _ => rfl
  obtain ⟨f__law_halves, fd__law_halves, g__law_halves, Fu__law_halves⟩ := A__law_halves.get inK ns
  have b__law_halves := Fu__law_halves.binds (ps := ["many"]) fun _ _ _ _ _ _ us hl => match us, hl with | [_], _ => rfl
  obtain ⟨f__law_with, fd__law_with, g__law_with, Fu__law_with⟩ := A__law_with.get inK ns
  have b__law_with := Fu__law_with.binds (ps := ["row", "place", "item"]) fun _ _ _ _ _ _ us hl => match us, hl with | [_, _, _], _ => rfl
  obtain ⟨f__law_sure, fd__law_sure, g__law_sure, Fu__law_sure⟩ := A__law_sure.get inK ns
  have b__law_sure := Fu__law_sure.binds (ps := ["table"]) fun _ _ _ _ _ _ us hl => match us, hl with | [_], _ => rfl
  obtain ⟨f__law_known, fd__law_known, g__law_known, Fu__law_known⟩ := A__law_known.get inK ns
  have b__law_known := Fu__law_known.binds (ps := ["word", "many"]) fun _ _ _ _ _ _ us hl => match us, hl with | [_, _], _ => rfl
  obtain ⟨f__law_is_above, fd__law_is_above, g__law_is_above, Fu__law_is_above⟩ := A__law_is_above.get inK ns
  have b__law_is_above := Fu__law_is_above.binds (ps := ["row", "other"]) fun _ _ _ _ _ _ us hl => match us, hl with | [_, _], _ => rfl
  obtain ⟨f__law_table, fd__law_table, g__law_table, Fu__law_table⟩ := A__law_table.get inK ns
  have b__law_table := Fu__law_table.binds (ps := ["mill", "many"]) fun _ _ _ _ _ _ us hl => match us, hl with | [_, _], _ => rfl
  obtain ⟨f__law_same, fd__law_same, g__law_same, Fu__law_same⟩ := A__law_same.get inK ns
  have b__law_same := Fu__law_same.binds (ps := ["told", "due"]) fun _ _ _ _ _ _ us hl => match us, hl with | [_, _], _ => rfl
  obtain ⟨f__law_filling, fd__law_filling, g__law_filling, Fu__law_filling⟩ := A__law_filling.get inK ns
  have b__law_filling := Fu__law_filling.binds (ps := ["half"]) fun _ _ _ _ _ _ us hl => match us, hl with | [_], _ => rfl
  obtain ⟨f__law_primes, fd__law_primes, g__law_primes, Fu__law_primes⟩ := A__law_primes.get inK ns
  have b__law_primes := Fu__law_primes.binds (ps := ["table", "bit", "sure"]) fun _ _ _ _ _ _ us hl => match us, hl with | [_, _, _], _ => rfl
  obtain ⟨f__law_together, fd__law_together, g__law_together, Fu__law_together⟩ := A__law_together.get inK ns
  have b__law_together := Fu__law_together.binds (ps := ["sure", "one", "other"]) fun _ _ _ _ _ _ us hl => match us, hl with | [_, _, _], _ => rfl
  obtain ⟨f__law_needed, fd__law_needed, g__law_needed, Fu__law_needed⟩ := A__law_needed.get inK ns
  have b__law_needed := Fu__law_needed.binds (ps := ["some"]) fun _ _ _ _ _ _ us hl => match us, hl with | [_], _ => rfl
  obtain ⟨f__law_are_primes_right, fd__law_are_primes_right, g__law_are_primes_right, Fu__law_are_primes_right⟩ := A__law_are_primes_right.get inK ns
  have b__law_are_primes_right := Fu__law_are_primes_right.binds (ps := ["table", "sure", "is_named"]) fun _ _ _ _ _ _ us hl => match us, hl with | [_, _, _], _ => rfl
  obtain ⟨f__law_are_halves_right, fd__law_are_halves_right, g__law_are_halves_right, Fu__law_are_halves_right⟩ := A__law_are_halves_right.get inK ns
  have b__law_are_halves_right := Fu__law_are_halves_right.binds (ps := ["mill", "table", "sure", "times"]) fun _ _ _ _ _ _ us hl => match us, hl with | [_, _, _, _], _ => rfl
  obtain ⟨f_law, fd_law, g_law, Fu_law⟩ := A_law.get inK ns
  have b_law := Fu_law.binds (ps := ["script"]) fun _ _ _ _ _ _ us hl => match us, hl with | [_], _ => rfl
  have K_o_primes_0_bit_table : KOrd K fd_primes ["table", "bit"] ["bit", "table"] o_primes_0_bit_table := MP.Fun.ord Fu_primes (fun _ _ _ _ _ _ us ws hl => by unfold o_primes_0_bit_table at hl ⊢; split at hl <;> first | rfl | cases hl) o_primes_0_bit_table_rel
  have K_o_needed_0_bit_table : KOrd K fd_needed ["table", "bit"] ["bit", "table"] o_needed_0_bit_table := MP.Fun.ord Fu_needed (fun _ _ _ _ _ _ us ws hl => by unfold o_needed_0_bit_table at hl ⊢; split at hl <;> first | rfl | cases hl) o_needed_0_bit_table_rel
  have K_o_sure_on_0_half_table : KOrd K fd_sure_on ["table", "half"] ["half", "table"] o_sure_on_0_half_table := MP.Fun.ord Fu_sure_on (fun _ _ _ _ _ _ us ws hl => by unfold o_sure_on_0_half_table at hl ⊢; split at hl <;> first | rfl | cases hl) o_sure_on_0_half_table_rel
  have K_o_lie_together_0_other_one_table : KOrd K fd_lie_together ["table", "one", "other"] ["other", "one", "table"] o_lie_together_0_other_one_table := MP.Fun.ord Fu_lie_together (fun _ _ _ _ _ _ us ws hl => by unfold o_lie_together_0_other_one_table at hl ⊢; split at hl <;> first | rfl | cases hl) o_lie_together_0_other_one_table_rel
  rw [g_law] at hfa
  cases hfa
  refine ⟨fd_law, MP.Fun.one Fu_law fun _ _ _ _ _ _ u => rfl, fun base _ _ => ?_⟩
  have D_places_of := d_places_of (P := P) (w := w) (base := base) (k := 0) Fu_places_of g_places_of Fu_places_of.kp b_places_of m_len
  have D_number_of := d_number_of (P := P) (w := w) (base := base) (k := 0) Fu_number_of g_number_of Fu_number_of.kp b_number_of
  have D_value_at := d_value_at (P := P) (w := w) (base := base) (k := 1) Fu_value_at g_value_at Fu_value_at.kp b_value_at (D_number_of.up (by decide))
  have D_rows_filling := d_rows_filling (P := P) (w := w) (base := base) (k := 0) Fu_rows_filling g_rows_filling Fu_rows_filling.kp b_rows_filling m_tuple m_sorted
  have D_half_text := d_half_text (P := P) (w := w) (base := base) (k := 0) Fu_half_text g_half_text Fu_half_text.kp b_half_text m_str
  have D_halves := d_halves (P := P) (w := w) (base := base) (k := 0) Fu_halves g_halves Fu_halves.kp b_halves m_range
  have D_sure_on := d_sure_on (P := P) (w := w) (base := base) (k := 2) Fu_sure_on g_sure_on Fu_sure_on.kp b_sure_on (D_rows_filling.up (by decide)) (D_value_at.up (by decide)) m_len
  have D_with_item := d_with_item (P := P) (w := w) (base := base) (k := 0) Fu_with_item g_with_item Fu_with_item.kp b_with_item
  have D_free_in := d_free_in (P := P) (w := w) (base := base) (k := 0) Fu_free_in g_free_in Fu_free_in.kp b_free_in
  have D_sure_values := d_sure_values (P := P) (w := w) (base := base) (k := 2) Fu_sure_values g_sure_values Fu_sure_values.kp b_sure_values (D_halves.up (by decide)) (D_places_of.up (by decide)) (D_value_at.up (by decide)) (D_with_item.up (by decide)) D_free_in (by decide) m_sorted
  have D_primes := d_primes (P := P) (w := w) (base := base) (k := 3) Fu_primes g_primes Fu_primes.kp b_primes (D_sure_values.up (by decide)) (D_halves.up (by decide)) (D_places_of.up (by decide)) (D_with_item.up (by decide)) m_enumerate m_any m_tuple
  have D_needed := d_needed (P := P) (w := w) (base := base) (k := 4) Fu_needed g_needed Fu_needed.kp b_needed (D_primes.up (by decide)) (D_rows_filling.up (by decide)) D_half_text (by decide) m_dict m_len m_tuple m_sorted
  have D_lie_together := d_lie_together (P := P) (w := w) (base := base) (k := 3) Fu_lie_together g_lie_together Fu_lie_together.kp b_lie_together (D_sure_on.up (by decide)) m_tuple m_zip
  have D__law_mill := d__law_mill (P := P) (w := w) (base := base) (k := 0) Fu__law_mill g__law_mill Fu__law_mill.kp b__law_mill m_abs m_int m_len
  have D__law_take := d__law_take (P := P) (w := w) (base := base) (k := 0) Fu__law_take g__law_take Fu__law_take.kp b__law_take m_int
  have D__law_one := d__law_one (P := P) (w := w) (base := base) (k := 1) Fu__law_one g__law_one Fu__law_one.kp b__law_one (D__law_take.up (by decide)) m_len
  have D__law_mixed := d__law_mixed (P := P) (w := w) (base := base) (k := 1) Fu__law_mixed g__law_mixed Fu__law_mixed.kp b__law_mixed (D__law_take.up (by decide)) m_list m_len
  have D__law_rows := d__law_rows (P := P) (w := w) (base := base) (k := 0) Fu__law_rows g__law_rows Fu__law_rows.kp b__law_rows m_range m_list
  have D__law_number := d__law_number (P := P) (w := w) (base := base) (k := 0) Fu__law_number g__law_number Fu__law_number.kp b__law_number
  have D__law_places := d__law_places (P := P) (w := w) (base := base) (k := 0) Fu__law_places g__law_places Fu__law_places.kp b__law_places m_len
  have D__law_halves := d__law_halves (P := P) (w := w) (base := base) (k := 0) Fu__law_halves g__law_halves Fu__law_halves.kp b__law_halves m_range m_list
  have D__law_with := d__law_with (P := P) (w := w) (base := base) (k := 0) Fu__law_with g__law_with Fu__law_with.kp b__law_with
  have D__law_sure := d__law_sure (P := P) (w := w) (base := base) (k := 1) Fu__law_sure g__law_sure Fu__law_sure.kp b__law_sure (D__law_halves.up (by decide)) (D__law_places.up (by decide)) (D__law_with.up (by decide)) (D__law_number.up (by decide))
  have D__law_known := d__law_known (P := P) (w := w) (base := base) (k := 1) Fu__law_known g__law_known Fu__law_known.kp b__law_known (D__law_rows.up (by decide)) (D__law_number.up (by decide)) m_int m_sum m_any m_range m_list m_sorted m_tuple
  have D__law_is_above := d__law_is_above (P := P) (w := w) (base := base) (k := 0) Fu__law_is_above g__law_is_above Fu__law_is_above.kp b__law_is_above m_all m_zip
  have D__law_table := d__law_table (P := P) (w := w) (base := base) (k := 2) Fu__law_table g__law_table Fu__law_table.kp b__law_table (D__law_take.up (by decide)) (D__law_rows.up (by decide)) (D__law_known.up (by decide)) (D__law_one.up (by decide)) (D__law_mixed.up (by decide)) (D__law_is_above.up (by decide)) (D__law_with.up (by decide)) m_tuple m_len m_list m_range m_int m_any
  have D__law_same := d__law_same (P := P) (w := w) (base := base) (k := 0) Fu__law_same g__law_same Fu__law_same.kp b__law_same m_repr
  have D__law_filling := d__law_filling (P := P) (w := w) (base := base) (k := 0) Fu__law_filling g__law_filling Fu__law_filling.kp b__law_filling m_list
  have D__law_primes := d__law_primes (P := P) (w := w) (base := base) (k := 1) Fu__law_primes g__law_primes Fu__law_primes.kp b__law_primes (D__law_halves.up (by decide)) (D__law_places.up (by decide)) (D__law_with.up (by decide)) m_enumerate m_any
  have D__law_together := d__law_together (P := P) (w := w) (base := base) (k := 0) Fu__law_together g__law_together Fu__law_together.kp b__law_together m_tuple m_zip
  have D__law_needed := d__law_needed (P := P) (w := w) (base := base) (k := 1) Fu__law_needed g__law_needed Fu__law_needed.kp b__law_needed (D__law_filling.up (by decide)) m_any m_tuple
  have D__law_are_primes_right := d__law_are_primes_right (P := P) (w := w) (base := base) (k := 5) Fu__law_are_primes_right g__law_are_primes_right Fu__law_are_primes_right.kp b__law_are_primes_right (D__law_primes.up (by decide)) (D_primes.up (by decide)) (D_needed.up (by decide)) (D__law_same.up (by decide)) (D__law_needed.up (by decide)) K_o_primes_0_bit_table K_o_needed_0_bit_table m_tuple
  have D__law_are_halves_right := d__law_are_halves_right (P := P) (w := w) (base := base) (k := 4) Fu__law_are_halves_right g__law_are_halves_right Fu__law_are_halves_right.kp b__law_are_halves_right (D__law_rows.up (by decide)) (D__law_places.up (by decide)) (D__law_one.up (by decide)) (D_sure_on.up (by decide)) (D_lie_together.up (by decide)) (D__law_together.up (by decide)) (D__law_same.up (by decide)) K_o_sure_on_0_half_table K_o_lie_together_0_other_one_table m_list m_range
  have D_law := d_law (P := P) (w := w) (base := base) (k := 6) Fu_law g_law Fu_law.kp b_law (D__law_mill.up (by decide)) (D__law_take.up (by decide)) (D__law_table.up (by decide)) (D__law_sure.up (by decide)) (D__law_same.up (by decide)) (D_primes.up (by decide)) (D__law_primes.up (by decide)) (D__law_one.up (by decide)) (D__law_are_primes_right.up (by decide)) (D__law_are_halves_right.up (by decide)) m_tuple m_range m_repr
  exact (D_law.up (by decide)).fn.law plain
end K82

open PySem PySem.W PyProof.Rows
set_option maxRecDepth 100000 in
set_option maxHeartbeats 0 in
theorem PySem.Challenge.cw_fullsense_k82_whole_primes_holds : PySem.Challenge.rw_fullsense_k82_whole_primes.Holds := by
  w_on; o_law; k_head; (case hw => w_witness2)
  k_fill
  refine MP.walkLaw (x := "script") (k := 74) (l := PySem.Challenge.rw_fullsense_k82_whole_primes) rfl rfl ⟨rfl, by decide, by decide⟩ (fun w h Y => PySem.W.kIn_of Y) ?F
  case F =>
    intro w mg fa h KX G hmg
    refine' K82.chain ?A_places_of ?A_number_of ?A_value_at ?A_rows_filling ?A_half_text ?A_halves ?A_sure_on ?A_with_item ?A_free_in ?A_sure_values ?A_primes ?A_needed ?A_lie_together ?A__law_mill ?A__law_take ?A__law_one ?A__law_mixed ?A__law_rows ?A__law_number ?A__law_places ?A__law_halves ?A__law_with ?A__law_sure ?A__law_known ?A__law_is_above ?A__law_table ?A__law_same ?A__law_filling ?A__law_primes ?A__law_together ?A__law_needed ?A__law_are_primes_right ?A__law_are_halves_right ?A_law ?Z_len ?Z_tuple ?Z_sorted ?Z_str ?Z_range ?Z_enumerate ?Z_any ?Z_dict ?Z_zip ?Z_abs ?Z_int ?Z_list ?Z_sum ?Z_all ?Z_repr KX G hmg Sp.law_k82
    (case A_places_of => refine' MP.atK ?a ?l ?c ?k; (case a => k_is); (case l => k_is); (case c => k_is); (case k => k_is))
    (case A_number_of => refine' MP.atK ?a ?l ?c ?k; (case a => k_is); (case l => k_is); (case c => k_is); (case k => k_is))
    (case A_value_at => refine' MP.atK ?a ?l ?c ?k; (case a => k_is); (case l => k_is); (case c => k_is); (case k => k_is))
    (case A_rows_filling => refine' MP.atK ?a ?l ?c ?k; (case a => k_is); (case l => k_is); (case c => k_is); (case k => k_is))
    (case A_half_text => refine' MP.atK ?a ?l ?c ?k; (case a => k_is); (case l => k_is); (case c => k_is); (case k => k_is))
    (case A_halves => refine' MP.atK ?a ?l ?c ?k; (case a => k_is); (case l => k_is); (case c => k_is); (case k => k_is))
    (case A_sure_on => refine' MP.atK ?a ?l ?c ?k; (case a => k_is); (case l => k_is); (case c => k_is); (case k => k_is))
    (case A_with_item => refine' MP.atK ?a ?l ?c ?k; (case a => k_is); (case l => k_is); (case c => k_is); (case k => k_is))
    (case A_free_in => refine' MP.atK ?a ?l ?c ?k; (case a => k_is); (case l => k_is); (case c => k_is); (case k => k_is))
    (case A_sure_values => refine' MP.atK ?a ?l ?c ?k; (case a => k_is); (case l => k_is); (case c => k_is); (case k => k_is))
    (case A_primes => refine' MP.atK ?a ?l ?c ?k; (case a => k_is); (case l => k_is); (case c => k_is); (case k => k_is))
    (case A_needed => refine' MP.atK ?a ?l ?c ?k; (case a => k_is); (case l => k_is); (case c => k_is); (case k => k_is))
    (case A_lie_together => refine' MP.atK ?a ?l ?c ?k; (case a => k_is); (case l => k_is); (case c => k_is); (case k => k_is))
    (case A__law_mill => refine' MP.atK ?a ?l ?c ?k; (case a => k_is); (case l => k_is); (case c => k_is); (case k => k_is))
    (case A__law_take => refine' MP.atK ?a ?l ?c ?k; (case a => k_is); (case l => k_is); (case c => k_is); (case k => k_is))
    (case A__law_one => refine' MP.atK ?a ?l ?c ?k; (case a => k_is); (case l => k_is); (case c => k_is); (case k => k_is))
    (case A__law_mixed => refine' MP.atK ?a ?l ?c ?k; (case a => k_is); (case l => k_is); (case c => k_is); (case k => k_is))
    (case A__law_rows => refine' MP.atK ?a ?l ?c ?k; (case a => k_is); (case l => k_is); (case c => k_is); (case k => k_is))
    (case A__law_number => refine' MP.atK ?a ?l ?c ?k; (case a => k_is); (case l => k_is); (case c => k_is); (case k => k_is))
    (case A__law_places => refine' MP.atK ?a ?l ?c ?k; (case a => k_is); (case l => k_is); (case c => k_is); (case k => k_is))
    (case A__law_halves => refine' MP.atK ?a ?l ?c ?k; (case a => k_is); (case l => k_is); (case c => k_is); (case k => k_is))
    (case A__law_with => refine' MP.atK ?a ?l ?c ?k; (case a => k_is); (case l => k_is); (case c => k_is); (case k => k_is))
    (case A__law_sure => refine' MP.atK ?a ?l ?c ?k; (case a => k_is); (case l => k_is); (case c => k_is); (case k => k_is))
    (case A__law_known => refine' MP.atK ?a ?l ?c ?k; (case a => k_is); (case l => k_is); (case c => k_is); (case k => k_is))
    (case A__law_is_above => refine' MP.atK ?a ?l ?c ?k; (case a => k_is); (case l => k_is); (case c => k_is); (case k => k_is))
    (case A__law_table => refine' MP.atK ?a ?l ?c ?k; (case a => k_is); (case l => k_is); (case c => k_is); (case k => k_is))
    (case A__law_same => refine' MP.atK ?a ?l ?c ?k; (case a => k_is); (case l => k_is); (case c => k_is); (case k => k_is))
    (case A__law_filling => refine' MP.atK ?a ?l ?c ?k; (case a => k_is); (case l => k_is); (case c => k_is); (case k => k_is))
    (case A__law_primes => refine' MP.atK ?a ?l ?c ?k; (case a => k_is); (case l => k_is); (case c => k_is); (case k => k_is))
    (case A__law_together => refine' MP.atK ?a ?l ?c ?k; (case a => k_is); (case l => k_is); (case c => k_is); (case k => k_is))
    (case A__law_needed => refine' MP.atK ?a ?l ?c ?k; (case a => k_is); (case l => k_is); (case c => k_is); (case k => k_is))
    (case A__law_are_primes_right => refine' MP.atK ?a ?l ?c ?k; (case a => k_is); (case l => k_is); (case c => k_is); (case k => k_is))
    (case A__law_are_halves_right => refine' MP.atK ?a ?l ?c ?k; (case a => k_is); (case l => k_is); (case c => k_is); (case k => k_is))
    (case A_law => refine' MP.atK ?a ?l ?c ?k; (case a => k_is); (case l => k_is); (case c => k_is); (case k => k_is))
    (case Z_len => k_is)
    (case Z_tuple => k_is)
    (case Z_sorted => k_is)
    (case Z_str => k_is)
    (case Z_range => k_is)
    (case Z_enumerate => k_is)
    (case Z_any => k_is)
    (case Z_dict => k_is)
    (case Z_zip => k_is)
    (case Z_abs => k_is)
    (case Z_int => k_is)
    (case Z_list => k_is)
    (case Z_sum => k_is)
    (case Z_all => k_is)
    (case Z_repr => k_is)
