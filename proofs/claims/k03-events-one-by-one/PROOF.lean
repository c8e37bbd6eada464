import PyProof.Rows.All
import Wide.All
import OpenK.AllK
import Wide.FinOn
import HandS.ForMost
import HandS.ForExc
import HandS.Slots
import HandS.TupAny
import HandS.Deep
import HandS.Wide
import HandS.IsInst
import KE.DataCmp
import KE.SortData
import HandS.Style
import HandS.Property
import HandS.SlotsOwn
import HandS.TupMul
import HandS.Star
import KE.GoesEnum
import KE.GoesZip
import HandS.Zip
import HandS.Exc
import OpenK.KOps
import HandS.MapObj
import HandS.RevTup
import KE.KDictZip
import HandS.Keys
import HandS.FromBytesMap
import HandS.SortKw
import KE.SortKeyHeap
import PySem.Challenge.RW_manymakers_k03_whole_events_one_by_one
set_option Elab.async false
set_option linter.all false
set_option maxRecDepth 100000
/-! ## Data, heaps of data, and how both are borne by the hand layer's heap -/
namespace Pf
open PySem L2

/-- a value as plain data; ref i: the thing i of the heap of data -/
inductive D where
  | non | bl (b : Bool) | int (i : Int) | str (x : List Nat) | ty (n : String)
  | tup (l : List D) | lst (l : List D) | lsc (l : List D)
  | dct (kvs : List (D × D)) | set (l : List D)
  | ins (c : Nat) (fs : List (Nat × D))
  | ref (i : Nat) | gl (x : Nat) | clo (i : Nat) (l : List D) | exc (c : Nat) (fs : List (Nat × D))
abbrev Hh := List D
def tS (x : List Nat) : Str := ⟨x.toArray⟩
theorem tS_inj {x y : List Nat} (h : tS x = tS y) : x = y := by
  unfold tS at h
  injection h with h
  simpa using congrArg Array.toList h

/-! names by numbers -/
def cNames : List String := ["Plan", "Setup", "State", "Line", "House", "Trial", "Desk", "Items", "Watcher", "Row", "Machine", "MakerError", "InvalidPlan", "InvalidSetup", "InvalidStanding", "UnknownMaker", "InvalidEvent", "InvalidHistory", "InvalidNumber", "InvalidSeries", "UnlikeSetups", "InvalidCount",
  "InvalidAsks", "InvalidTime", "InvalidLog", "InvalidWidth", "InvalidValue", "InvalidName", "UnknownKept", "InvalidOperation", "NoHistory", "InvalidLine", "DecodeError", "ScriptError", "ExecutionFailed", "TooLong"]
def fNames : List String := ["words", "makers", "sizes", "facts", "shelf", "past", "undone", "number", "head", "rest", "block", "base", "held", "tested_house", "origin", "newest", "chosen", "size", "span", "rows", "data", "spot", "ends", "last", "accepted", "house", "output", "step_count", "part", "index", "row", "word", "offset"]
def nmC (i : Nat) : Str := Str.ofString (cNames.getD i "?")
def nmF (i : Nat) : Str := Str.ofString (fNames.getD i "?")
theorem nmF_inj {i j : Nat} (hi : i < 33) (hj : j < 33) (h : nmF i = nmF j) : i = j := by
  have : ∀ i < 33, ∀ j < 33, nmF i = nmF j → i = j := by decide +kernel
  exact this i hi j hj h
/-- the classes with slots: the fields' places -/
def slTab : Nat → List (Nat × Nat)
  | 0 => [(0, 0)]
  | 1 => [(1, 0), (2, 1)]
  | 2 => [(3, 0), (5, 1), (4, 2), (6, 3)]
  | 3 => [(10, 0), (8, 1), (7, 2), (9, 3)]
  | _ => []
def isSl (c : Nat) : Bool := decide (c < 4)

/-- where things are: written no more (F); the heap's things by number (bs) -/
structure Mp where
  F : Addr → Prop
  bs : List Addr
/-- the module: its written part, its names; what is kept for later -/
structure Gx where
  K : PySem.W.Frag
  mg : Str → Option Value
  gn : Nat → Str := fun _ => "?"
  hash : D → Int := fun _ => 0
  hc : (Addr → Prop) → Hp → Nat → List V → V → Prop := fun _ _ _ _ _ => False
  hx : (Addr → Prop) → Hp → Addr → Option Addr → V → Prop := fun _ _ _ _ _ => False

/-- a tuple stands at a -/
def TupAt (G : Gx) (F : Addr → Prop) (H : Hp) (a : Addr) (xs : List V) : Prop :=
  (F a ∧ H a = some (.tup xs)) ∨
    ∃ (o : Obj) (its : Array Value) (n : Nat), G.K.lookup a = some o ∧ o.cls = .type "tuple" ∧ o.data = .seq its n ∧ its.size ≤ sizeLine ∧ Vals xs its.toList
/-- a list that was there ahead of all -/
def LscAt (G : Gx) (F : Addr → Prop) (H : Hp) (a : Addr) (xs : List V) : Prop :=
  (F a ∧ ∃ o, H a = some (.frz o (.lst xs))) ∨
    ∃ (o : Obj) (its : Array Value) (n : Nat), G.K.lookup a = some o ∧ o.cls = .type "list" ∧ o.dict = none ∧ o.data = .seq its n ∧ its.size ≤ sizeLine ∧ Vals xs its.toList
/-- a dict's object, a set's object -/
def DicO (a : Addr) (es : List DictEntry) : HO := .ext fun h => ∃ (o : Obj) (ep : Nat), h.get? a = some o ∧ o.ExactDict ∧ o.data = .dict es.toArray ep
def SetO (a : Addr) (es : List (Int × Value)) : HO := .ext fun h => ∃ (o : Obj) (ep : Nat) (t : SetTable), h.get? a = some o ∧ o.ExactSet ∧ o.data = .set es.toArray ep t ∧ es.length < scanBound ∧ t.fits es.length = true
/-- the slots by name -/
def SlotsOk (c : Nat) (vs : List (Str × V)) (ws : List (Option V)) : Prop := ∀ i v, i < 33 → vs.lookup (nmF i) = some v → ∃ j, (slTab c).lookup i = some j ∧ ws[j]? = some (some v)

mutual
inductive RV (G : Gx) (M : Mp) (H : Hp) : D → V → Prop
  | non : RV G M H .non .non
  | bl (b : Bool) : RV G M H (.bl b) (.bl b)
  | int (i : Int) : RV G M H (.int i) (.int i)
  | str (x : List Nat) : RV G M H (.str x) (.str (tS x))
  | ty (n : String) : RV G M H (.ty n) (.ty n)
  | tup {a : Addr} {l : List D} {xs : List V} : TupAt G M.F H a xs → RVs G M H l xs → RV G M H (.tup l) (.ref a)
  | scr {a : Addr} {l : List D} {xs : List V} : LscAt G M.F H a xs → RVs G M H l xs → RV G M H (.lsc l) (.ref a)
  | lst {a : Addr} {l : List D} : M.F a → RO G M H a (.lst l) → RV G M H (.lst l) (.ref a)
  | dct {a : Addr} {l : List (D × D)} : M.F a → RO G M H a (.dct l) → RV G M H (.dct l) (.ref a)
  | set {a : Addr} {l : List D} : M.F a → RO G M H a (.set l) → RV G M H (.set l) (.ref a)
  | ins {a : Addr} {c : Nat} {fs : List (Nat × D)} : M.F a → RO G M H a (.ins c fs) → RV G M H (.ins c fs) (.ref a)
  | ref {i : Nat} {a : Addr} : M.bs[i]? = some a → RV G M H (.ref i) (.ref a)
  | gl {x : Nat} {a : Addr} : G.mg (G.gn x) = some (.ref a) → RV G M H (.gl x) (.ref a)
  | clo {i : Nat} {l : List D} {xs : List V} {v : V} : G.hc M.F H i xs v → RVs G M H l xs → RV G M H (.clo i l) v
  | exc {c : Nat} {C : Addr} {fs : List (Nat × D)} {xs : List (Str × V)} {dx : Option Addr} {v : V} : G.mg (nmC c) = some (.ref C) → G.hx M.F H C dx v → (∀ d, dx = some d → M.F d ∧ H d = some (.xd xs)) → (dx = none → xs = []) → RFs G M H fs xs → RV G M H (.exc c fs) v
inductive RVs (G : Gx) (M : Mp) (H : Hp) : List D → List V → Prop
  | nil : RVs G M H [] []
  | cons {d : D} {v : V} {l : List D} {xs : List V} : RV G M H d v → RVs G M H l xs → RVs G M H (d :: l) (v :: xs)
inductive RFs (G : Gx) (M : Mp) (H : Hp) : List (Nat × D) → List (Str × V) → Prop
  | nil : RFs G M H [] []
  | cons {f : Nat} {d : D} {v : V} {l : List (Nat × D)} {xs : List (Str × V)} : f < 33 → RV G M H d v → RFs G M H l xs → RFs G M H ((f, d) :: l) ((nmF f, v) :: xs)
inductive RPs (G : Gx) (M : Mp) (H : Hp) : List (D × D) → List DictEntry → Prop
  | nil : RPs G M H [] []
  | cons {k d : D} {z v : V} {e : DictEntry} {l : List (D × D)} {es : List DictEntry} : RV G M H k z → RelV z e.key → RV G M H d v → RelV v e.val → e.hash = G.hash k → RPs G M H l es → RPs G M H ((k, d) :: l) (e :: es)
inductive RSs (G : Gx) (M : Mp) (H : Hp) : List D → List (Int × Value) → Prop
  | nil : RSs G M H [] []
  | cons {k : D} {z : V} {e : Int × Value} {l : List D} {es : List (Int × Value)} : RV G M H k z → RelV z e.2 → e.1 = G.hash k → RSs G M H l es → RSs G M H (k :: l) (e :: es)
inductive RO (G : Gx) (M : Mp) (H : Hp) : Addr → D → Prop
  | lst {a : Addr} {xs : List D} {vs : List V} : H a = some (.lst vs) → RVs G M H xs vs → RO G M H a (.lst xs)
  | dct {a : Addr} {kvs : List (D × D)} {es : List DictEntry} : H a = some (DicO a es) → (a == sysModules) = false → kvs.length ≤ sizeLine → RPs G M H kvs es → RO G M H a (.dct kvs)
  | set {a : Addr} {l : List D} {es : List (Int × Value)} : H a = some (SetO a es) → RSs G M H l es → RO G M H a (.set l)
  | ins {a C dx : Addr} {c : Nat} {fs : List (Nat × D)} {vs : List (Str × V)} : isSl c = false → G.mg (nmC c) = some (.ref C) → H a = some (.ins C dx vs) → RFs G M H fs vs → RO G M H a (.ins c fs)
  | sl0 {a C dx : Addr} {c : Nat} : isSl c = true → G.mg (nmC c) = some (.ref C) → H a = some (.ins C dx []) → RO G M H a (.ins c [])
  | sl1 {a C dx : Addr} {c : Nat} {fs : List (Nat × D)} {vs : List (Str × V)} {ws : List (Option V)} : isSl c = true → G.mg (nmC c) = some (.ref C) → H a = some (SlX.SlO a C dx ws) → M.F dx → H dx = some (.xd []) → SlotsOk c vs ws → RFs G M H fs vs → RO G M H a (.ins c fs)
end

/-- what stays from a state to a later one -/
structure Ext (M : Mp) (H : Hp) (M' : Mp) (H' : Hp) : Prop where
  keep : ∀ b o, H b = some o → b ∉ M.bs → (∀ y, o ≠ .own y) → H' b = some o
  trk : ∀ b, H' b = none → H b = none
  fz : ∀ b, M.F b → M'.F b
  pre : ∃ l, M'.bs = M.bs ++ l ∧ ∀ b ∈ l, H b = none
  newF : ∀ b, M'.F b → M.F b ∨ b ∈ M.bs ∨ H b = none ∨ ∃ y, H b = some (.own y)
theorem Ext.refl {M : Mp} {H : Hp} : Ext M H M H := ⟨fun _ _ h _ _ => h, fun _ h => h, fun _ h => h, ⟨[], by simp, by simp⟩, fun _ h => .inl h⟩
theorem not_own {H : Hp} {b : Addr} : (∃ y, H b = some (.own y)) ∨ ∀ o, H b = some o → ∀ y, o ≠ .own y := by
  by_cases h : ∃ y, H b = some (.own y)
  · exact .inl h
  · exact .inr fun o e y z => h ⟨y, by rw [e, z]⟩
theorem Ext.off {M M' : Mp} {H H' : Hp} (e : Ext M H M' H') {b : Addr} {o : HO} (h : H b = some o) (n : b ∉ M.bs) : b ∉ M'.bs := by
  obtain ⟨l, e1, e2⟩ := e.pre
  rw [e1]
  intro z
  rcases List.mem_append.mp z with z | z
  · exact n z
  · rw [e2 b z] at h; cases h
theorem Ext.mem {M M' : Mp} {H H' : Hp} (e : Ext M H M' H') {b : Addr} (h : b ∈ M.bs) : b ∈ M'.bs := by
  obtain ⟨l, e1, _⟩ := e.pre
  rw [e1]; exact List.mem_append_left _ h
theorem Ext.get {M M' : Mp} {H H' : Hp} (e : Ext M H M' H') {i : Nat} {b : Addr} (h : M.bs[i]? = some b) : M'.bs[i]? = some b := by
  obtain ⟨l, e1, _⟩ := e.pre
  rw [e1, List.getElem?_append_left (List.getElem?_eq_some_iff.mp h).1]; exact h
theorem Ext.trans {M M1 M2 : Mp} {H H1 H2 : Hp} (a : Ext M H M1 H1) (b : Ext M1 H1 M2 H2) : Ext M H M2 H2 := by
  have nw : ∀ c, c ∈ M1.bs → c ∈ M.bs ∨ H c = none := fun c h => by
    obtain ⟨l, e1, e2⟩ := a.pre
    rw [e1] at h
    rcases List.mem_append.mp h with z | z
    · exact .inl z
    · exact .inr (e2 c z)
  refine ⟨fun c o h n y => b.keep c o (a.keep c o h n y) (a.off h n) y, fun c h => a.trk c (b.trk c h), fun c h => b.fz c (a.fz c h), ?_, fun c h => ?_⟩
  · obtain ⟨l, e1, e2⟩ := a.pre
    obtain ⟨m, f1, f2⟩ := b.pre
    refine ⟨l ++ m, by rw [f1, e1, List.append_assoc], fun c hc => ?_⟩
    rcases List.mem_append.mp hc with z | z
    · exact e2 c z
    · exact a.trk c (f2 c z)
  · rcases b.newF c h with z | z | z | ⟨y, z⟩
    · exact a.newF c z
    · rcases nw c z with z | z
      · exact .inr (.inl z)
      · exact .inr (.inr (.inl z))
    · exact .inr (.inr (.inl (a.trk c z)))
    · rcases not_own (H := H) (b := c) with q | q
      · exact .inr (.inr (.inr q))
      · cases e : H c with
        | none => exact .inr (.inr (.inl rfl))
        | some o =>
          by_cases n : c ∈ M.bs
          · exact .inr (.inl n)
          · have := a.keep c o e n (q o e)
            rw [z] at this; cases this
            exact absurd rfl (q _ e y)

/-- the heap of things is borne -/
structure RL (G : Gx) (h : Hh) (M : Mp) (H : Hp) : Prop where
  len : h.length = M.bs.length
  at_ : ∀ (i : Nat) (o : D), h[i]? = some o → ∃ a, M.bs[i]? = some a ∧ RO G M H a o
  nd : M.bs.Nodup
  off : ∀ a ∈ M.bs, ¬ M.F a
  fz : ∀ a, M.F a → ∃ o, H a = some o ∧ ∀ y, o ≠ .own y
/-- what is kept for later stays -/
structure Gk (G : Gx) : Prop where
  hc : ∀ {F F' : Addr → Prop} {H H' : Hp}, (∀ a, F a → F' a ∧ ∀ o, H a = some o → H' a = some o) → ∀ i l v, G.hc F H i l v → G.hc F' H' i l v
  hx : ∀ {F F' : Addr → Prop} {H H' : Hp}, (∀ a, F a → F' a ∧ ∀ o, H a = some o → H' a = some o) → ∀ C d v, G.hx F H C d v → G.hx F' H' C d v
  nc : ∀ F H i l, ¬ G.hc F H i l .non
  nx : ∀ F H C d, ¬ G.hx F H C d .non

/-- what values lean on stays -/
structure Keep (M : Mp) (H : Hp) (M' : Mp) (H' : Hp) : Prop where
  k : ∀ a, M.F a → M'.F a ∧ ∀ o, H a = some o → H' a = some o
  b : ∀ (i : Nat) a, M.bs[i]? = some a → M'.bs[i]? = some a
theorem Ext.kp {G : Gx} {h : Hh} {M M' : Mp} {H H' : Hp} (r : RL G h M H) (e : Ext M H M' H') : Keep M H M' H' := ⟨fun a ha => ⟨e.fz a ha, fun o q => by
  obtain ⟨u, q', y⟩ := r.fz a ha
  rw [q] at q'; cases q'
  exact e.keep a o q (fun z => r.off a z ha) y⟩, fun i a => e.get⟩
theorem Keep.refl {M : Mp} {H : Hp} : Keep M H M H := ⟨fun a h => ⟨h, fun _ z => z⟩, fun _ _ h => h⟩
section
variable {G : Gx} {M M' : Mp} {H H' : Hp} {a : Addr}
theorem TupAt.keep {xs : List V} (e : Keep M H M' H') (h : TupAt G M.F H a xs) : TupAt G M'.F H' a xs := by
  rcases h with ⟨h, n⟩ | h
  · exact .inl ⟨(e.k a h).1, (e.k a h).2 _ n⟩
  · exact .inr h
theorem LscAt.keep {xs : List V} (e : Keep M H M' H') (h : LscAt G M.F H a xs) : LscAt G M'.F H' a xs := by
  rcases h with ⟨h, o, n⟩ | h
  · exact .inl ⟨(e.k a h).1, o, (e.k a h).2 _ n⟩
  · exact .inr h
mutual
theorem RV.keep (gk : Gk G) (e : Keep M H M' H') : ∀ {d : D} {v : V}, RV G M H d v → RV G M' H' d v
  | _, _, .non => .non
  | _, _, .bl b => .bl b
  | _, _, .int i => .int i
  | _, _, .str x => .str x
  | _, _, .ty n => .ty n
  | _, _, .tup h r => .tup (h.keep e) (RVs.keep gk e r)
  | _, _, .scr h r => .scr (h.keep e) (RVs.keep gk e r)
  | _, _, .lst h r => .lst (e.k _ h).1 (RO.keep gk e (e.k _ h).2 r)
  | _, _, .dct h r => .dct (e.k _ h).1 (RO.keep gk e (e.k _ h).2 r)
  | _, _, .set h r => .set (e.k _ h).1 (RO.keep gk e (e.k _ h).2 r)
  | _, _, .ins h r => .ins (e.k _ h).1 (RO.keep gk e (e.k _ h).2 r)
  | _, _, .ref h => .ref (e.b _ _ h)
  | _, _, .gl h => .gl h
  | _, _, .clo h r => .clo (gk.hc e.k _ _ _ h) (RVs.keep gk e r)
  | _, _, .exc m h d n r => .exc m (gk.hx e.k _ _ _ h) (fun x q => ⟨(e.k _ (d x q).1).1, (e.k _ (d x q).1).2 _ (d x q).2⟩) n (RFs.keep gk e r)
theorem RVs.keep (gk : Gk G) (e : Keep M H M' H') : ∀ {l : List D} {xs : List V}, RVs G M H l xs → RVs G M' H' l xs
  | _, _, .nil => .nil
  | _, _, .cons h t => .cons (RV.keep gk e h) (RVs.keep gk e t)
theorem RFs.keep (gk : Gk G) (e : Keep M H M' H') : ∀ {l : List (Nat × D)} {xs : List (Str × V)}, RFs G M H l xs → RFs G M' H' l xs
  | _, _, .nil => .nil
  | _, _, .cons n h t => .cons n (RV.keep gk e h) (RFs.keep gk e t)
theorem RPs.keep (gk : Gk G) (e : Keep M H M' H') : ∀ {l : List (D × D)} {xs : List DictEntry}, RPs G M H l xs → RPs G M' H' l xs
  | _, _, .nil => .nil
  | _, _, .cons k q d s g t => .cons (RV.keep gk e k) q (RV.keep gk e d) s g (RPs.keep gk e t)
theorem RSs.keep (gk : Gk G) (e : Keep M H M' H') : ∀ {l : List D} {xs : List (Int × Value)}, RSs G M H l xs → RSs G M' H' l xs
  | _, _, .nil => .nil
  | _, _, .cons k q g t => .cons (RV.keep gk e k) q g (RSs.keep gk e t)
theorem RO.keep (gk : Gk G) (e : Keep M H M' H') : ∀ {a : Addr} {o : D}, (∀ u, H a = some u → H' a = some u) → RO G M H a o → RO G M' H' a o
  | _, _, s, .lst h r => .lst (s _ h) (RVs.keep gk e r)
  | _, _, s, .dct h m n r => .dct (s _ h) m n (RPs.keep gk e r)
  | _, _, s, .set h r => .set (s _ h) (RSs.keep gk e r)
  | _, _, s, .ins i m h r => .ins i m (s _ h) (RFs.keep gk e r)
  | _, _, s, .sl0 i m h => .sl0 i m (s _ h)
  | _, _, s, .sl1 i m h f x o r => .sl1 i m (s _ h) (e.k _ f).1 ((e.k _ f).2 _ x) o (RFs.keep gk e r)
end
theorem RVs.length : ∀ {l : List D} {xs : List V}, RVs G M H l xs → l.length = xs.length
  | _, _, .nil => rfl
  | _, _, .cons _ t => by simp [RVs.length t]
theorem RVs.get : ∀ {l : List D} {xs : List V} {i : Nat} {d : D}, RVs G M H l xs → l[i]? = some d → ∃ v, xs[i]? = some v ∧ RV G M H d v
  | _, _, _, _, .nil, h => by simp at h
  | _, _, 0, _, .cons h _, e => by simp at e; subst e; exact ⟨_, rfl, h⟩
  | _, _, i + 1, _, .cons _ t, e => by
    obtain ⟨v, h1, h2⟩ := RVs.get (i := i) t (by simpa using e)
    exact ⟨v, by simpa using h1, h2⟩
theorem RVs.getV : ∀ {l : List D} {xs : List V} {i : Nat} {v : V}, RVs G M H l xs → xs[i]? = some v → ∃ d, l[i]? = some d ∧ RV G M H d v
  | _, _, _, _, .nil, h => by simp at h
  | _, _, 0, _, .cons h _, e => by simp at e; subst e; exact ⟨_, rfl, h⟩
  | _, _, i + 1, _, .cons _ t, e => by
    obtain ⟨v, h1, h2⟩ := RVs.getV (i := i) t (by simpa using e)
    exact ⟨v, by simpa using h1, h2⟩
theorem RVs.append : ∀ {l m : List D} {xs ys : List V}, RVs G M H l xs → RVs G M H m ys → RVs G M H (l ++ m) (xs ++ ys)
  | _, _, _, _, .nil, s => s
  | _, _, _, _, .cons h t, s => .cons h (RVs.append t s)
theorem RVs.set {d : D} {v : V} (r : RV G M H d v) : ∀ {l : List D} {xs : List V} (i : Nat), RVs G M H l xs → RVs G M H (l.set i d) (xs.set i v)
  | _, _, _, .nil => .nil
  | _, _, 0, .cons _ t => .cons r t
  | _, _, i + 1, .cons h t => .cons h (RVs.set r i t)
theorem RVs.take : ∀ {l : List D} {xs : List V} (n : Nat), RVs G M H l xs → RVs G M H (l.take n) (xs.take n)
  | _, _, 0, _ => by simpa using RVs.nil
  | _, _, _ + 1, .nil => .nil
  | _, _, n + 1, .cons h t => .cons h (RVs.take n t)
theorem RVs.drop : ∀ {l : List D} {xs : List V} (n : Nat), RVs G M H l xs → RVs G M H (l.drop n) (xs.drop n)
  | _, _, 0, r => by simpa using r
  | _, _, _ + 1, .nil => .nil
  | _, _, n + 1, .cons _ t => RVs.drop n t
theorem RVs.rev : ∀ {l : List D} {xs : List V}, RVs G M H l xs → RVs G M H l.reverse xs.reverse
  | _, _, .nil => .nil
  | _, _, .cons h t => by simpa using (RVs.rev t).append (.cons h .nil)
theorem RVs.ofInts : ∀ (ns : List Int), RVs G M H (ns.map D.int) (ns.map V.int)
  | [] => .nil
  | n :: ns => .cons (.int n) (RVs.ofInts ns)
theorem RFs.look : ∀ {l : List (Nat × D)} {xs : List (Str × V)} {f : Nat} {d : D}, RFs G M H l xs → f < 33 → l.lookup f = some d → ∃ v, xs.lookup (nmF f) = some v ∧ RV G M H d v
  | _, _, _, _, .nil, _, h => by simp at h
  | _, _, f, _, .cons (f := g) n h t, hf, e => by
    simp only [List.lookup_cons] at e ⊢
    cases q : f == g with
    | true => rw [q] at e; cases e; rw [eq_of_beq q]; simp only [beq_self_eq_true]; exact ⟨_, rfl, h⟩
    | false =>
      rw [q] at e
      have : (nmF f == nmF g) = false := by
        rw [beq_eq_false_iff_ne]
        intro z
        rw [nmF_inj hf n z] at q
        simp at q
      rw [this]
      exact RFs.look t hf e
theorem RFs.bound : ∀ {l : List (Nat × D)} {xs : List (Str × V)} {f : Nat} {d : D}, RFs G M H l xs → l.lookup f = some d → f < 33
  | _, _, _, _, .nil, h => by simp at h
  | _, _, f, _, .cons (f := g) n h t, e => by
    simp only [List.lookup_cons] at e
    cases q : f == g with
    | true => rw [eq_of_beq q]; exact n
    | false => rw [q] at e; exact RFs.bound t e
/-- a thing that is borne is tracked -/
theorem RO.some {o : D} (h : RO G M H a o) : ∃ u, H a = some u ∧ ∀ y, u ≠ .own y := by
  cases h with
  | lst h _ => exact ⟨_, h, fun _ z => nomatch z⟩
  | dct h _ _ _ => exact ⟨_, h, fun _ z => nomatch z⟩
  | set h _ => exact ⟨_, h, fun _ z => nomatch z⟩
  | ins _ _ h _ => exact ⟨_, h, fun _ z => nomatch z⟩
  | sl0 _ _ h => exact ⟨_, h, fun _ z => nomatch z⟩
  | sl1 _ _ h _ _ _ _ => exact ⟨_, h, fun _ z => nomatch z⟩
end
section
variable {G : Gx} {h : Hh} {M M' : Mp} {H H' : Hp} {a p : Addr}
theorem RV.ext (gk : Gk G) {d : D} {v : V} (r : RL G h M H) (e : Ext M H M' H') (x : RV G M H d v) : RV G M' H' d v := x.keep gk (e.kp r)
theorem RVs.ext (gk : Gk G) {d : List D} {v : List V} (r : RL G h M H) (e : Ext M H M' H') (x : RVs G M H d v) : RVs G M' H' d v := x.keep gk (e.kp r)
theorem RL.tracked (r : RL G h M H) (x : a ∈ M.bs) : ∃ u, H a = some u ∧ ∀ y, u ≠ .own y := by
  obtain ⟨i, hi⟩ := List.mem_iff_getElem?.mp x
  have hlt := (List.getElem?_eq_some_iff.mp hi).1
  rw [← r.len] at hlt
  obtain ⟨b, hb, ro⟩ := r.at_ i (h[i]) (by simp)
  rw [hi] at hb; cases hb
  exact ro.some
theorem RL.free (r : RL G h M H) (x : H a = none) : a ∉ M.bs := fun z => by
  obtain ⟨u, e, _⟩ := r.tracked z
  rw [x] at e; cases e
theorem RL.freeF (r : RL G h M H) (x : H a = none) : ¬ M.F a := fun z => by
  obtain ⟨o, e, _⟩ := r.fz a z
  rw [x] at e; cases e
theorem RL.look (r : RL G h M H) {i : Nat} {o : D} (x : h[i]? = some o) (y : M.bs[i]? = some a) : RO G M H a o := by
  obtain ⟨b, hb, ro⟩ := r.at_ i o x
  rw [y] at hb; cases hb
  exact ro
def Mp.fr (M : Mp) (a : Addr) : Mp := ⟨fun b => M.F b ∨ b = a, M.bs⟩
/-! a new thing that is written no more -/
theorem Ext.newF' {o : HO} (x : H p = none) : Ext M H (M.fr p) (upd H p o) where
  keep := fun b u e _ _ => by rw [upd_ne (ne_of_none e x)]; exact e
  trk := fun b e => by
    by_cases z : b = p
    · subst z; exact x
    · rw [upd_ne z] at e; exact e
  fz := fun b e => .inl e
  pre := ⟨[], by simp [Mp.fr], by simp⟩
  newF := fun b e => by
    rcases e with e | e
    · exact .inl e
    · subst e; exact .inr (.inr (.inl x))
theorem Keep.newF {o : HO} (x : H p = none) : Keep M H (M.fr p) (upd H p o) := ⟨fun a q => ⟨.inl q, fun u e => by rw [upd_ne (ne_of_none e x)]; exact e⟩, fun _ _ h => h⟩
theorem Keep.new {o : HO} (x : H p = none) : Keep M H M (upd H p o) := ⟨fun a q => ⟨q, fun u e => by rw [upd_ne (ne_of_none e x)]; exact e⟩, fun _ _ h => h⟩
theorem RL.newF (gk : Gk G) {o : HO} (r : RL G h M H) (x : H p = none) (ho : ∀ y, o ≠ .own y) : RL G h (M.fr p) (upd H p o) where
  len := r.len
  at_ := fun i u e => by
    obtain ⟨b, hb, ro⟩ := r.at_ i u e
    exact ⟨b, hb, ro.keep gk (Keep.newF x) fun w q => by rw [upd_ne (ne_of_none q x)]; exact q⟩
  nd := r.nd
  off := fun b hb z => by
    rcases z with z | z
    · exact r.off b hb z
    · subst z; exact r.free x hb
  fz := fun b e => by
    rcases e with e | e
    · obtain ⟨u, q, y⟩ := r.fz b e
      exact ⟨u, by rw [upd_ne (ne_of_none q x)]; exact q, y⟩
    · subst e; exact ⟨o, upd_same, ho⟩
/-- a thing that is tracked and loose is written no more from here on -/
theorem RL.adoptF (gk : Gk G) {o : HO} (r : RL G h M H) (n : p ∉ M.bs) (e : H p = some o) (ho : ∀ y, o ≠ .own y) : RL G h (M.fr p) H where
  len := r.len
  at_ := fun i u q => by
    obtain ⟨b, hb, ro⟩ := r.at_ i u q
    exact ⟨b, hb, ro.keep gk (M' := M.fr p) ⟨fun a z => ⟨Or.inl z, fun _ w => w⟩, fun _ _ w => w⟩ fun _ w => w⟩
  nd := r.nd
  off := fun b hb z => by
    rcases z with z | z
    · exact r.off b hb z
    · subst z; exact n hb
  fz := fun b z => by
    rcases z with z | z
    · exact r.fz b z
    · subst z; exact ⟨o, e, ho⟩
/-- a thing that is tracked and loose comes to the heap -/
def Mp.pu (M : Mp) (a : Addr) : Mp := ⟨M.F, M.bs ++ [a]⟩
theorem Keep.pu : Keep M H (M.pu p) H := ⟨fun a z => ⟨z, fun _ w => w⟩, fun i a w => by
  show (M.bs ++ [p])[i]? = _
  rw [List.getElem?_append_left (List.getElem?_eq_some_iff.mp w).1]; exact w⟩
theorem RL.adopt (gk : Gk G) {u : D} (r : RL G h M H) (n : p ∉ M.bs) (nf : ¬ M.F p) (ro : RO G M H p u) : RL G (h ++ [u]) (M.pu p) H where
  len := by simp [Mp.pu, r.len]
  at_ := fun i w e => by
    by_cases hi : i < h.length
    · rw [List.getElem?_append_left hi] at e
      obtain ⟨b, hb, ro'⟩ := r.at_ i w e
      exact ⟨b, Keep.pu.b (H := H) _ _ hb, ro'.keep gk Keep.pu fun _ w => w⟩
    · rw [List.getElem?_append_right (by omega)] at e
      have h0 : i - h.length = 0 := by
        cases q : i - h.length with
        | zero => rfl
        | succ m => rw [q] at e; simp at e
      rw [h0] at e
      simp at e
      subst e
      refine ⟨p, ?_, ro.keep gk Keep.pu fun _ w => w⟩
      show (M.bs ++ [p])[i]? = _
      rw [List.getElem?_append_right (by rw [← r.len]; omega), ← r.len, h0]; rfl
  nd := by
    show (M.bs ++ [p]).Nodup
    rw [List.nodup_append]
    refine ⟨r.nd, by simp, fun a ha b hb => ?_⟩
    simp at hb; subst hb
    exact fun z => n (z ▸ ha)
  off := fun b hb z => by
    rcases List.mem_append.mp hb with w | w
    · exact r.off b w z
    · simp at w; subst w; exact nf z
  fz := r.fz
/-- a thing of the heap is changed -/
theorem Keep.chg {o : HO} (r : RL G h M H) (x : p ∈ M.bs) : Keep M H M (upd H p o) := ⟨fun a q => ⟨q, fun u e => by
  have z : a ≠ p := fun z => r.off p x (by rw [← z]; exact q)
  rw [upd_ne z]; exact e⟩, fun _ _ h => h⟩
theorem Ext.chg {o : HO} (x : p ∈ M.bs) : Ext M H M (upd H p o) where
  keep := fun b w e n _ => by
    have hb : b ≠ p := fun z => n (z ▸ x)
    rw [upd_ne hb]; exact e
  trk := fun b e => by
    by_cases z : b = p
    · subst z; rw [upd_same] at e; cases e
    · rw [upd_ne z] at e; exact e
  fz := fun b e => e
  pre := ⟨[], by simp, by simp⟩
  newF := fun b e => .inl e
theorem RL.chg (gk : Gk G) {o : HO} {u : D} {i : Nat} (r : RL G h M H) (x : M.bs[i]? = some p) (ro : RO G M (upd H p o) p u) : RL G (h.set i u) M (upd H p o) where
  len := by simp [r.len]
  at_ := fun j w e => by
    by_cases z : j = i
    · subst z
      have hj : j < h.length := by rw [r.len]; exact (List.getElem?_eq_some_iff.mp x).1
      rw [List.getElem?_set_self hj] at e
      cases e
      exact ⟨p, x, ro⟩
    · rw [List.getElem?_set_ne (Ne.symm z)] at e
      obtain ⟨b, hb, ro'⟩ := r.at_ j w e
      have hne : b ≠ p := fun q => by
        subst q
        have h1 := List.getElem?_eq_some_iff.mp hb
        have h2 := List.getElem?_eq_some_iff.mp x
        exact z ((List.getElem_inj r.nd (h₀ := h1.1) (h₁ := h2.1)).mp (h1.2.trans h2.2.symm))
      exact ⟨b, hb, ro'.keep gk (Keep.chg r (List.mem_iff_getElem?.mpr ⟨i, x⟩)) fun w q => by rw [upd_ne hne]; exact q⟩
  nd := r.nd
  off := r.off
  fz := fun a e => by
    obtain ⟨w, q, y⟩ := r.fz a e
    have z : a ≠ p := fun z => by subst z; exact r.off a (List.mem_iff_getElem?.mpr ⟨i, x⟩) e
    exact ⟨w, by rw [upd_ne z]; exact q, y⟩
/-- what is neither of the heap nor written no more may be changed -/
theorem Keep.poke {o : HO} (n : ¬ M.F p) : Keep M H M (upd H p o) := ⟨fun a q => ⟨q, fun u e => by
  have z : a ≠ p := fun z => n (by rw [← z]; exact q)
  rw [upd_ne z]; exact e⟩, fun _ _ h => h⟩
theorem RL.poke (gk : Gk G) {o : HO} (r : RL G h M H) (n : p ∉ M.bs) (nf : ¬ M.F p) : RL G h M (upd H p o) where
  len := r.len
  at_ := fun i u e => by
    obtain ⟨b, hb, ro⟩ := r.at_ i u e
    refine ⟨b, hb, ro.keep gk (Keep.poke nf) fun u q => ?_⟩
    have z : b ≠ p := fun z => n (z ▸ List.mem_iff_getElem?.mpr ⟨i, hb⟩)
    rw [upd_ne z]; exact q
  nd := r.nd
  off := r.off
  fz := fun a e => by
    obtain ⟨w, q, y⟩ := r.fz a e
    have z : a ≠ p := fun z => nf (by rw [← z]; exact e)
    exact ⟨w, by rw [upd_ne z]; exact q, y⟩
end
end Pf

set_option Elab.async false
set_option linter.all false
set_option maxRecDepth 100000
/-! ## What a text computes: results, judgements, bundles -/
namespace Pf
open PySem L2

/-! ### names -/
inductive Sl where
  | un | pl (d : D) | ow (d : D)
abbrev Rho := List Sl
structure RE (G : Gx) (M : Mp) (H : Hp) (r : Rho) (σ : St) : Prop where
  len : r.length = σ.length
  pl : ∀ (i : Nat) (d : D), r[i]? = some (Sl.pl d) → ∃ v, σ[i]? = some (some v) ∧ RV G M H d v
  ow : ∀ (i : Nat) (d : D), r[i]? = some (Sl.ow d) → ∃ a, σ[i]? = some (some (V.ref a)) ∧ RO G M H a d ∧ a ∉ M.bs ∧ ¬ M.F a
  one : ∀ (i j : Nat) (d e : D) (a : Addr), r[i]? = some (Sl.ow d) → r[j]? = some (Sl.ow e) → σ[i]? = some (some (V.ref a)) → σ[j]? = some (some (V.ref a)) → i = j
section
variable {G : Gx} {h : Hh} {M M' : Mp} {H H' : Hp} {r : Rho} {σ : St}
theorem RO.ext (gk : Gk G) {a : Addr} {d : D} (rl : RL G h M H) (e : Ext M H M' H') (n : a ∉ M.bs) (x : RO G M H a d) : RO G M' H' a d := by
  obtain ⟨u, q, y⟩ := x.some
  exact x.keep gk (e.kp rl) fun w z => e.keep a w z n (by rw [q] at z; cases z; exact y)
theorem Ext.offF (rl : RL G h M H) (e : Ext M H M' H') {a : Addr} {u : HO} (q : H a = some u) (y : ∀ z, u ≠ .own z) (n : a ∉ M.bs) (nf : ¬ M.F a) : ¬ M'.F a := fun z => by
  rcases e.newF a z with w | w | w | ⟨x, w⟩
  · exact nf w
  · exact n w
  · rw [q] at w; cases w
  · rw [q] at w; cases w; exact y x rfl
theorem RE.ext (gk : Gk G) (rl : RL G h M H) (e : Ext M H M' H') (x : RE G M H r σ) : RE G M' H' r σ where
  len := x.len
  pl := fun i d q => let ⟨v, a, b⟩ := x.pl i d q; ⟨v, a, b.ext gk rl e⟩
  ow := fun i d q => by
    obtain ⟨a, h1, ro, n, nf⟩ := x.ow i d q
    obtain ⟨u, q1, y⟩ := ro.some
    exact ⟨a, h1, ro.ext gk rl e n, e.off q1 n, e.offF rl q1 y n nf⟩
  one := x.one
theorem RE.set {i : Nat} {d : D} {v : V} (x : RE G M H r σ) (rv : RV G M H d v) : RE G M H (r.set i (.pl d)) (σ.set i (some v)) where
  len := by simp [x.len]
  pl := fun j e q => by
    by_cases z : i = j
    · subst z
      by_cases hi : i < r.length
      · rw [List.getElem?_set_self hi] at q
        cases q
        exact ⟨v, by rw [List.getElem?_set_self (by rw [← x.len]; exact hi)], rv⟩
      · rw [List.getElem?_eq_none (by simpa using hi)] at q; cases q
    · rw [List.getElem?_set_ne z] at q ⊢
      exact x.pl j e q
  ow := fun j e q => by
    by_cases z : i = j
    · subst z
      by_cases hi : i < r.length
      · rw [List.getElem?_set_self hi] at q; cases q
      · rw [List.getElem?_eq_none (by simpa using hi)] at q; cases q
    · rw [List.getElem?_set_ne z] at q ⊢
      exact x.ow j e q
  one := fun j k d e a q1 q2 s1 s2 => by
    by_cases z : i = j
    · subst z
      by_cases hi : i < r.length
      · rw [List.getElem?_set_self hi] at q1; cases q1
      · rw [List.getElem?_eq_none (by simpa using hi)] at q1; cases q1
    by_cases w : i = k
    · subst w
      by_cases hi : i < r.length
      · rw [List.getElem?_set_self hi] at q2; cases q2
      · rw [List.getElem?_eq_none (by simpa using hi)] at q2; cases q2
    rw [List.getElem?_set_ne z] at q1 s1
    rw [List.getElem?_set_ne w] at q2 s2
    exact x.one j k d e a q1 q2 s1 s2
/-- a name forgotten -/
theorem RE.kill {i : Nat} (x : RE G M H r σ) : RE G M H (r.set i .un) σ where
  len := by simp [x.len]
  pl := fun j e q => by
    by_cases z : i = j
    · subst z
      by_cases hi : i < r.length
      · rw [List.getElem?_set_self hi] at q; cases q
      · rw [List.getElem?_eq_none (by simpa using hi)] at q; cases q
    · rw [List.getElem?_set_ne z] at q; exact x.pl j e q
  ow := fun j e q => by
    by_cases z : i = j
    · subst z
      by_cases hi : i < r.length
      · rw [List.getElem?_set_self hi] at q; cases q
      · rw [List.getElem?_eq_none (by simpa using hi)] at q; cases q
    · rw [List.getElem?_set_ne z] at q; exact x.ow j e q
  one := fun j k d e a q1 q2 s1 s2 => by
    have f : ∀ (j : Nat) (e : D), (r.set i .un)[j]? = some (Sl.ow e) → r[j]? = some (Sl.ow e) := fun j e q => by
      by_cases z : i = j
      · subst z
        by_cases hi : i < r.length
        · rw [List.getElem?_set_self hi] at q; cases q
        · rw [List.getElem?_eq_none (by simpa using hi)] at q; cases q
      · rw [List.getElem?_set_ne z] at q; exact q
    exact x.one j k d e a (f j d q1) (f k e q2) s1 s2

/-! ### operands -/
def RB (G : Gx) (M : Mp) (H : Hp) (d : D) (v : V) : Prop := RV G M H d v ∨ ∃ a, v = .ref a ∧ RO G M H a d ∧ a ∉ M.bs
theorem RB.ext (gk : Gk G) {d : D} {v : V} (rl : RL G h M H) (e : Ext M H M' H') (x : RB G M H d v) : RB G M' H' d v := by
  rcases x with x | ⟨a, rfl, ro, n⟩
  · exact .inl (x.ext gk rl e)
  · obtain ⟨u, q, y⟩ := ro.some
    exact .inr ⟨a, rfl, ro.ext gk rl e n, e.off q n⟩
/-- the thing that a value is -/
def vw (h : Hh) : D → Option D
  | .ref i => h[i]?
  | d => some d
def Vd (G : Gx) (M : Mp) (H : Hp) (d : D) (v : V) : Prop := RV G M H d v ∨ ∃ a, v = .ref a ∧ RO G M H a d
theorem vw_ok {d d' : D} {v : V} (rl : RL G h M H) (x : RB G M H d v) (e : vw h d = some d') : Vd G M H d' v := by
  rcases x with x | ⟨a, rfl, ro, n⟩
  · cases d with
    | ref i =>
      cases x with
      | ref q => exact .inr ⟨_, rfl, rl.look e q⟩
    | _ => cases e; exact .inl x
  · cases ro <;> cases e
    · exact .inr ⟨_, rfl, by first | exact .lst ‹_› ‹_›⟩
    · exact .inr ⟨_, rfl, .dct ‹_› ‹_› ‹_› ‹_›⟩
    · exact .inr ⟨_, rfl, .set ‹_› ‹_›⟩
    · exact .inr ⟨_, rfl, .ins ‹_› ‹_› ‹_› ‹_›⟩
    · exact .inr ⟨_, rfl, .sl0 ‹_› ‹_› ‹_›⟩
    · exact .inr ⟨_, rfl, .sl1 ‹_› ‹_› ‹_› ‹_› ‹_› ‹_› ‹_›⟩
theorem Vd.thing {d : D} {v : V} (x : Vd G M H d v) (t : match d with | .lst _ => True | .dct _ => True | .set _ => True | .ins _ _ => True | _ => False) : ∃ a, v = .ref a ∧ RO G M H a d := by
  rcases x with x | x
  · cases x <;> first | exact t.elim | exact ⟨_, rfl, ‹_›⟩
  · exact x
theorem Vd.rv {d : D} {v : V} (x : Vd G M H d v) (t : match d with | .lst _ => False | .dct _ => False | .set _ => False | .ins _ _ => False | _ => True) : RV G M H d v := by
  rcases x with x | ⟨a, rfl, ro⟩
  · exact x
  · cases ro <;> exact t.elim
theorem Vd.lst {l : List D} {v : V} (x : Vd G M H (.lst l) v) : ∃ a vs, v = .ref a ∧ H a = some (.lst vs) ∧ RVs G M H l vs := by
  obtain ⟨a, rfl, ro⟩ := x.thing trivial
  cases ro with
  | lst h r => exact ⟨a, _, rfl, h, r⟩
end

/-! ### results -/
inductive Res (α : Type) where
  | ok (a : α) (h : Hh) | exc (c : Nat) (fs : List (Nat × D)) (h : Hh) | no
def Res.bind {α β : Type} (m : Res α) (f : α → Hh → Res β) : Res β := match m with
  | .ok a h => f a h
  | .exc c fs h => .exc c fs h
  | .no => .no
@[simp] theorem bind_ok {α β : Type} {a : α} {h : Hh} {f : α → Hh → Res β} : (Res.ok a h).bind f = f a h := rfl
@[simp] theorem bind_exc {α β : Type} {c : Nat} {fs : List (Nat × D)} {h : Hh} {f : α → Hh → Res β} : (Res.exc c fs h).bind f = .exc c fs h := rfl
@[simp] theorem bind_no {α β : Type} {f : α → Hh → Res β} : (Res.no).bind f = .no := rfl
/-- a value without a further change -/
def ofO {α : Type} (o : Option α) (h : Hh) : Res α := match o with
  | some a => .ok a h
  | none => .no
@[simp] theorem ofO_some {α : Type} {a : α} {h : Hh} : ofO (some a) h = .ok a h := rfl
@[simp] theorem ofO_none {α : Type} {h : Hh} : ofO (none : Option α) h = .no := rfl
abbrev Fsem := List D → Hh → Res D

/-- an exception's class and fields -/
def RX (G : Gx) (M : Mp) (H : Hp) (c : Nat) (fs : List (Nat × D)) (cls : Value) (dx : Option Addr) : Prop :=
  ∃ C, G.mg (nmC c) = some (.ref C) ∧ cls = .ref C ∧ match dx with
    | none => fs = []
    | some d => M.F d ∧ ∃ vs : List (Str × V), H d = some (.xd vs) ∧ RFs G M H fs vs
/-- what follows a result -/
def KG {α β : Type} (Rel : Mp → Hp → α → β → Prop) (G : Gx) (Wx : WX) (σ : St) (M : Mp) (H : Hp) (Qv : β → Hp → Prop) : Res α → Prop
  | .ok d h' => ∀ v M' H', Ext M H M' H' → RL G h' M' H' → Rel M' H' d v → Qv v H'
  | .exc c fs h' => ∀ cls dx M' H', Ext M H M' H' → RL G h' M' H' → RX G M' H' c fs cls dx → Wx cls dx σ H'
  | .no => False
section
variable {α β α' β' : Type} {Rel : Mp → Hp → α → β → Prop} {Rel' : Mp → Hp → α' → β' → Prop} {G : Gx} {Wx : WX} {σ : St} {h : Hh} {M M' : Mp} {H H' : Hp} {Qv : β → Hp → Prop} {m : Res α}
theorem KG.back (e : Ext M H M' H') (k : KG Rel G Wx σ M H Qv m) : KG Rel G Wx σ M' H' Qv m := by
  cases m with
  | ok d h' => exact fun v M2 H2 e2 => k v M2 H2 (e.trans e2)
  | exc c fs h' => exact fun cls dx M2 H2 e2 => k cls dx M2 H2 (e.trans e2)
  | no => exact k
theorem KG.imp {Rel2 : Mp → Hp → α → β' → Prop} {Qv' : β' → Hp → Prop} (k : KG Rel G Wx σ M H Qv m) (f : ∀ d v M2 H2 h2, Ext M H M2 H2 → RL G h2 M2 H2 → Rel2 M2 H2 d v → (∀ u, Rel M2 H2 d u → Qv u H2) → Qv' v H2) : KG Rel2 G Wx σ M H Qv' m := by
  cases m with
  | ok d h' => exact fun v M2 H2 e2 r2 q => f d v M2 H2 h' e2 r2 q fun u ru => k u M2 H2 e2 r2 ru
  | exc c fs h' => exact k
  | no => exact k
/-- one thing ahead of others -/
theorem one {m : Res α'} {f : α' → Hh → Res α} {R : β' → Hp → Prop} (k : KG Rel G Wx σ M H Qv (m.bind f))
    (c : ∀ a b h1 M1 H1, Ext M H M1 H1 → RL G h1 M1 H1 → Rel' M1 H1 a b → KG Rel G Wx σ M1 H1 Qv (f a h1) → R b H1) : KG Rel' G Wx σ M H R m := by
  cases m with
  | ok d h' => exact fun v M2 H2 e2 r2 q => c d v h' M2 H2 e2 r2 q (KG.back e2 k)
  | exc x fs h' => exact k
  | no => exact k
theorem KG.here {a : α} {b : β} (k : KG Rel G Wx σ M H Qv (.ok a h)) (rl : RL G h M H) (r : Rel M H a b) : Qv b H := k b M H Ext.refl rl r
end
/-- a pure answer z -/
def KP (G : Gx) (h : Hh) (M : Mp) (H : Hp) (z : D) (Qv : VK) : Prop := ∀ v M' H', Ext M H M' H' → RL G h M' H' → RV G M' H' z v → Qv v H'
section
variable {G : Gx} {h : Hh} {M : Mp} {H : Hp} {Qv : VK}
theorem KP.here {z : D} {v : V} (k : KP G h M H z Qv) (rl : RL G h M H) (r : RV G M H z v) : Qv v H := k v M H Ext.refl rl r
theorem KP.newList (gk : Gk G) {xs : List D} {vs : List V} (k : KP G h M H (.lst xs) Qv) (rl : RL G h M H) (rv : RVs G M H xs vs) (p : Addr) (hp : H p = none) : Qv (.ref p) (upd H p (.lst vs)) :=
  k _ _ _ (Ext.newF' hp) (rl.newF gk hp (fun _ z => nomatch z)) (.lst (.inr rfl) (.lst upd_same (rv.keep gk (Keep.newF hp))))
theorem KP.newTup (gk : Gk G) {xs : List D} {vs : List V} (k : KP G h M H (.tup xs) Qv) (rl : RL G h M H) (rv : RVs G M H xs vs) (p : Addr) (hp : H p = none) : Qv (.ref p) (upd H p (.tup vs)) :=
  k _ _ _ (Ext.newF' hp) (rl.newF gk hp (fun _ z => nomatch z)) (.tup (.inl ⟨.inr rfl, upd_same⟩) (rv.keep gk (Keep.newF hp)))
end

/-! ### the look at a text -/
structure Ck where
  N : List Str
  sc : Scope
  blk : Bool
def visB (ck : Ck) (x : Str) : Bool := match ck.sc.names.lookup x with
  | some .local => true | some .cell => true | some .free => true
  | _ => false
def globB (ck : Ck) (x : Str) : Bool := (match ck.sc.names.lookup x with
  | some .globalImplicit => true
  | _ => false) && !(x == ("__debug__" : Str)) && !(x == ("__name__" : Str))
def stB (ck : Ck) (x : Str) : Bool := match ck.sc.names.lookup x with
  | some .local => true
  | some .cell => !ck.blk
  | _ => false
def atB (ck : Ck) (i : Nat) (x : Str) : Bool := decide (ck.N[i]? = some x)
def notSet : Expr → Bool
  | .Set _ _ _ => false
  | _ => true
def notSlice : Expr → Bool
  | .Slice _ _ _ _ => false
  | _ => true
def notStar : Expr → Bool
  | .Starred _ _ => false
  | _ => true
def plainBase : Expr → Bool
  | .Call _ _ _ _ => false
  | _ => true
def plainTest : Expr → Bool
  | .UnaryOp .Not _ _ => false
  | .BoolOp _ _ _ => false
  | .IfExp _ _ _ _ => false
  | .Compare _ _ _ _ => false
  | _ => true
/-- where a text stands: what it leans on -/
structure Tb where
  P : Program
  w : World
  G : Gx
  base : Heap
  k : Nat
/-- a def's answers, lifted to the layer -/
def lift (G : Gx) (F : Fsem) : L2.Sp := fun vs H Qv Ev => ∃ ds h M, RL G h M H ∧ RVs G M H ds vs ∧ KG (RV G) G (fun cls dx _ H' => Ev cls dx H') [] M H Qv (F ds h)
def FnL (t : Tb) (f : Str) (F : Fsem) : Prop :=
  ∃ (a : Addr) (fd : FuncData) (ps : List Str), t.G.mg f = some (.ref a) ∧ PySem.W.keepIn t.G.K (.ref a) = true ∧ Binds t.G.K fd ps [] ∧ FnOk t.P t.w t.G.K t.G.mg t.base (CX t.P t.w) t.k a fd ps (lift t.G F)
def GvL (t : Tb) (x : Str) (d : D) : Prop := ∃ u v, t.G.mg x = some u ∧ RelV v u ∧ ∀ M H, RV t.G M H d v
def BtL (t : Tb) (x : Str) : Prop := t.G.mg x = none
structure Cok (X : Cx) (G : Gx) (ck : Ck) (k : Nat) (Wx : WX) : Prop where
  hK : G.K = X.K
  hmg : G.mg = X.mg
  hN : X.N = ck.N
  hsc : X.env.scope = ck.sc
  calm : X.calm = true
  nd : X.N.Nodup
  room : Room (k + 2) X.A
  tk : Takes X Wx
  own : PassesOwn (model X.prog X.w) X.A X.env X.xe
  fn : ck.blk = false → ∀ x, X.fn x = true
  gk : Gk G
abbrev tbOf (X : Cx) (G : Gx) (k : Nat) : Tb := ⟨X.prog, X.w, G, X.base, k⟩

/-! ### bundles -/
def tG {α β : Type} (Rel : Mp → Hp → α → β → Prop) (G : Gx) (Wx : WX) (sem : Rho → Hh → Res α) : St → Hp → (β → Hp → Prop) → Prop := fun σ H Qv => ∃ r h M, RL G h M H ∧ RE G M H r σ ∧ KG Rel G Wx σ M H Qv (sem r h)
/-- an expression: what it computes, the look at its text, what it leans on, and that this is so -/
structure Xp where
  sem : Rho → Hh → Res D
  ok : Ck → Expr → Bool
  need : Tb → Prop
  star : ∀ ck a, ok ck a = true → notStar a = true
  snd : ∀ {X : Cx} {G : Gx} {ck : Ck} {k : Nat} {Wx : WX} {a : Expr}, Cok X G ck k Wx → ok ck a = true → need (tbOf X G k) → PE X a (tG (RV G) G Wx sem)
/-- an operand -/
structure Xo where
  sem : Rho → Hh → Res D
  ok : Ck → Expr → Bool
  need : Tb → Prop
  star : ∀ ck a, ok ck a = true → notStar a = true
  snd : ∀ {X : Cx} {G : Gx} {ck : Ck} {k : Nat} {Wx : WX} {a : Expr}, Cok X G ck k Wx → ok ck a = true → need (tbOf X G k) → PE X a (tG (RB G) G Wx sem)
/-- a test -/
structure Xt where
  sem : Rho → Hh → Res Bool
  ok : Ck → Expr → Bool
  need : Tb → Prop
  snd : ∀ {X : Cx} {G : Gx} {ck : Ck} {k : Nat} {Wx : WX} {a : Expr}, Cok X G ck k Wx → ok ck a = true → need (tbOf X G k) → PT X a (tG (fun _ _ (b c : Bool) => b = c) G Wx sem)
theorem PE.imp {X : Cx} {a : Expr} {t t' : TE} (h : PE X a t) (i : ∀ σ H Q, t' σ H Q → t σ H Q) : PE X a t' := ⟨fun pins s σ H Q I q => h.run pins s σ H Q I (i _ _ _ q)⟩
theorem PT.imp {X : Cx} {a : Expr} {t t' : TT} (h : PT X a t) (i : ∀ σ H Q, t' σ H Q → t σ H Q) : PT X a t' := ⟨fun pins s σ H Q I q => h.run pins s σ H Q I (i _ _ _ q)⟩
theorem PW.imp {X : Cx} {a : Expr} {t t' : TT} (h : PW X a t) (i : ∀ σ H Q, t' σ H Q → t σ H Q) : PW X a t' := ⟨fun wh pins s σ H Q I q => h.run wh pins s σ H Q I (i _ _ _ q)⟩
theorem PA.imp {X : Cx} {a : List Expr} {t t' : TA} (h : PA X a t) (i : ∀ σ H Q, t' σ H Q → t σ H Q) : PA X a t' := ⟨fun pos pins s σ H Q I q => h.run pos pins s σ H Q I (i _ _ _ q)⟩
theorem PTs.imp {X : Cx} {a : List Expr} {t t' : TT} (h : PTs X a t) (i : ∀ σ H Q, t' σ H Q → t σ H Q) : PTs X a t' := ⟨fun pins s σ H Q I q => h.run pins s σ H Q I (i _ _ _ q)⟩
theorem PI.imp {X : Cx} {tg a : Expr} {t t' : TI} (h : PI X tg a t) (i : ∀ σ H Q, t' σ H Q → t σ H Q) : PI X tg a t' := ⟨fun pins s σ H Q I q => h.run pins s σ H Q I (i _ _ _ q)⟩

def Xp.o (e : Xp) : Xo := ⟨e.sem, e.ok, e.need, e.star, fun C h n => PE.imp (e.snd C h n) fun σ H Qv ⟨r, h, M, rl, re, k⟩ => ⟨r, h, M, rl, re, k.imp fun d v M2 H2 h2 _ _ rv f => f v (.inl rv)⟩⟩
end Pf

set_option Elab.async false
set_option linter.all false
set_option maxRecDepth 100000
/-! ## Operations on data -/
namespace Pf
open PySem L2
def line : Nat := 16777216
theorem line_eq : line = sizeLine := by rw [sizeLine_eq]; rfl
mutual
/-- data as the library tells it -/
def pd : D → PyData
  | .non => .none
  | .bl b => .bool b
  | .int i => .int i
  | .str x => .str (tS x)
  | .tup l => .tuple (pds l)
  | .lst l => .list (pds l)
  | .lsc l => .list (pds l)
  | .ty _ => .none | .dct _ => .none | .set _ => .none | .ins _ _ => .none | .ref _ => .none | .gl _ => .none | .clo _ _ => .none | .exc _ _ => .none
def pds : List D → List PyData
  | [] => []
  | d :: l => pd d :: pds l
end
theorem pds_map : ∀ l : List D, pds l = l.map pd
  | [] => rfl
  | d :: l => by rw [pds, pds_map l]; rfl
/-- flat data of at most such a depth -/
def dep : Nat → D → Bool
  | _, .non => true
  | _, .bl _ => true
  | _, .int _ => true
  | _, .str x => x.all (fun c => decide (c < 1114112))
  | n + 1, .tup l => l.all (dep n)
  | n + 1, .lst l => l.all (dep n)
  | n + 1, .lsc l => l.all (dep n)
  | _, _ => false
theorem dep_succ : ∀ (n : Nat) (d : D), dep n d = true → dep (n + 1) d = true := by
  intro n
  induction n with
  | zero => intro d h; cases d <;> simp [dep] at h ⊢ <;> exact h
  | succ n ih =>
    intro d h
    cases d <;> simp [dep] at h ⊢ <;> first | exact h | exact fun x hx => ih x (h x hx)
theorem dep_le {n m : Nat} (h : n ≤ m) {d : D} (x : dep n d = true) : dep m d = true := by
  induction h with
  | refl => exact x
  | step _ ih => exact dep_succ _ _ ih
theorem canLay_dep : ∀ (n : Nat) (d : D), dep n d = true → (pd d).canLay0 = true ∧ (pd d).depth ≤ n := by
  have ls : ∀ (n : Nat) (l : List D), (∀ d ∈ l, (pd d).canLay0 = true ∧ (pd d).depth ≤ n) → PyData.canLayAll0 (pds l) = true ∧ PyData.depthAll (pds l) ≤ n := by
    intro n l
    induction l with
    | nil => intro _; exact ⟨by simp [pds, PyData.canLayAll0], by simp [pds, PyData.depthAll]⟩
    | cons d l ih =>
      intro h
      obtain ⟨h1, h2⟩ := h d List.mem_cons_self
      obtain ⟨i1, i2⟩ := ih fun x hx => h x (List.mem_cons_of_mem _ hx)
      exact ⟨by simp [pds, PyData.canLayAll0, h1, i1], by simp only [pds, PyData.depthAll]; omega⟩
  intro n
  induction n with
  | zero =>
    intro d h
    cases d <;> simp [dep] at h <;> simp [pd, PyData.canLay0, PyData.depth]
    simpa [PyData.strOk, tS] using h
  | succ n ih =>
    intro d h
    cases d <;> simp [dep] at h <;> simp [pd, PyData.canLay0, PyData.depth]
    · simpa [PyData.strOk, tS] using h
    · exact ls n _ fun d hd => ih d (h d hd)
    · exact ls n _ fun d hd => ih d (h d hd)
    · exact ls n _ fun d hd => ih d (h d hd)
theorem shaped_dep {d : D} (h : dep 60 d = true) : SeqAt.shaped (pd d) = true := by
  obtain ⟨h1, h2⟩ := canLay_dep 60 d h
  unfold SeqAt.shaped
  rw [h1, decide_eq_true (by omega)]; rfl

def mulOk (i j : Int) : Bool := (decide (-(2 ^ 64) < i) && decide (i < 2 ^ 64)) || (decide (-(2 ^ 64) < j) && decide (j < 2 ^ 64))
def powOk (i j : Int) : Bool := decide (0 ≤ j) && decide (j ≤ 1000000) && decide (i.natAbs < 2 ^ 64)
def binE (o : Operator) (a b : D) : Option D :=
  match o, a, b with
  | .Add, .int i, .int j => some (.int (i + j))
  | .Sub, .int i, .int j => some (.int (i - j))
  | .Mult, .int i, .int j => if mulOk i j then some (.int (i * j)) else none
  | .FloorDiv, .int i, .int j => if 0 < j ∧ j < 18446744073709551616 then some (.int (i / j)) else none
  | .Mod, .int i, .int j => if 0 < j then some (.int (i % j)) else none
  | .Pow, .int i, .int j => if powOk i j then some (.int (i ^ j.toNat)) else none
  | .LShift, .int i, .int j => if powOk i j then some (.int (i * 2 ^ j.toNat)) else none
  | .Add, .str x, .str y => if x.length + y.length ≤ line then some (.str (x ++ y)) else none
  | .Add, .tup l, .tup m => if l.length + m.length ≤ line then some (.tup (l ++ m)) else none
  | .Add, .lst l, .lst m => if l.length + m.length ≤ line then some (.lst (l ++ m)) else none
  | _, _, _ => none
def eqE (a b : D) : Option Bool := if dep 60 a && dep 60 b then some (PyData.eqv (pd a) (pd b)) else none
def isNonD : D → Bool
  | .non => true
  | _ => false
def ordOk (a b : D) : Bool := dep 60 a && dep 60 b && PySem.W.alike (pd a) (pd b) && !isNonD a
/-- the items of a sequence -/
def items : D → Option (List D)
  | .tup l => some l
  | .lst l => some l
  | .lsc l => some l
  | _ => none
def inE (a b : D) : Option Bool := (items b).bind fun l => if dep 60 a && l.all (dep 59) then some (l.any fun z => PyData.eqv (pd z) (pd a)) else none
def ltE (a b : D) (f : Int → Int → Bool) (g : PyData → PyData → Bool) : Option Bool :=
  match a, b with
  | .int i, .int j => some (f i j)
  | a, b => if ordOk a b then some (g (pd a) (pd b)) else none
def cmpE (o : CmpOp) (a b : D) : Option Bool :=
  match o with
  | .Eq => eqE a b
  | .NotEq => (eqE a b).map not
  | .Is => if isNonD b then some (isNonD a) else none
  | .IsNot => if isNonD b then some (!isNonD a) else none
  | .Lt => ltE a b (fun i j => decide (i < j)) fun d e => PySem.W.dataLt d e
  | .LtE => ltE a b (fun i j => decide (i ≤ j)) fun d e => !PySem.W.dataLt e d
  | .Gt => ltE a b (fun i j => decide (j < i)) fun d e => PySem.W.dataLt e d
  | .GtE => ltE a b (fun i j => decide (j ≤ i)) fun d e => !PySem.W.dataLt d e
  | .In => inE a b
  | .NotIn => (inE a b).map not
def ixE (a i : D) : Option D := match i with
  | .int k => (items a).bind fun l => atI l k
  | _ => none
def cutD (xs : List D) (lo hi : Option Int) : List D := (xs.drop (HT.sIx xs.length 0 lo)).take (HT.sIx xs.length xs.length hi - HT.sIx xs.length 0 lo)
def slE (a : D) (lo hi : Option Int) : Option D := match a with
  | .tup l => some (.tup (cutD l lo hi))
  | .lst l => some (.lst (cutD l lo hi))
  | .lsc l => some (.lst (cutD l lo hi))
  | _ => none
def truE : D → Option Bool
  | .bl b => some b
  | .int i => some (i != 0)
  | .non => some false
  | .tup l => some (!l.isEmpty)
  | .lst l => some (!l.isEmpty)
  | _ => none
/-- an operator at the things that the values are -/
def on2 {α : Type} (f : D → D → Option α) (h : Hh) (a b : D) : Option α := (vw h a).bind fun x => (vw h b).bind fun y => f x y
def on1 {α : Type} (f : D → Option α) (h : Hh) (a : D) : Option α := (vw h a).bind f
theorem on2_some {α : Type} {f : D → D → Option α} {h : Hh} {a b : D} {z : α} (e : on2 f h a b = some z) : ∃ x y, vw h a = some x ∧ vw h b = some y ∧ f x y = some z := by
  unfold on2 at e
  obtain ⟨x, e1, e⟩ := Option.bind_eq_some_iff.mp e
  obtain ⟨y, e2, e⟩ := Option.bind_eq_some_iff.mp e
  exact ⟨x, y, e1, e2, e⟩

section
variable {G : Gx} {h : Hh} {M : Mp} {H : Hp}
theorem TupAt.sq {X : Cx} {a : Addr} {xs : List V} (hK : G.K = X.K) (x : TupAt G M.F H a xs) : SqT X.K H a xs := by
  rw [← hK]
  rcases x with ⟨_, x⟩ | x
  · exact .inl (.inl x)
  · exact .inr x
theorem LscAt.sq {X : Cx} {a : Addr} {xs : List V} (hK : G.K = X.K) (x : LscAt G M.F H a xs) : SqL X.K H a xs := by
  rw [← hK]
  rcases x with ⟨_, o, x⟩ | x
  · exact .inl (.inr ⟨o, x⟩)
  · exact .inr x
theorem RVs.at {xs : List D} {vs : List V} {i : Int} {d : D} (r : RVs G M H xs vs) (x : atI xs i = some d) : ∃ v, atI vs i = some v ∧ RV G M H d v := by
  unfold atI at x ⊢
  rw [← r.length]
  cases e : ixN xs.length i with
  | none => rw [e] at x; cases x
  | some j =>
    rw [e] at x
    exact r.get x
theorem RVs.cut {xs : List D} {vs : List V} {lo hi : Option Int} (r : RVs G M H xs vs) : RVs G M H (cutD xs lo hi) (cutV vs lo hi) := by
  unfold cutD cutV
  rw [← r.length]
  exact (r.drop _).take _
/-- the sequence that a value is -/
theorem Vd.seq {X : Cx} (hK : G.K = X.K) {d : D} {v : V} {l : List D} (x : Vd G M H d v) (e : items d = some l) : ∃ p vs, v = .ref p ∧ RVs G M H l vs ∧ ((SqL X.K H p vs ∧ ∀ m, d ≠ .tup m) ∨ (SqT X.K H p vs ∧ d = .tup l)) := by
  cases d <;> simp [items] at e <;> subst e
  · cases x.rv trivial with
    | tup h r => exact ⟨_, _, rfl, r, .inr ⟨h.sq hK, rfl⟩⟩
  · obtain ⟨a, vs, rfl, h, r⟩ := x.lst
    exact ⟨a, vs, rfl, r, .inl ⟨SqL.of h, fun _ z => nomatch z⟩⟩
  · cases x.rv trivial with
    | scr h r => exact ⟨_, _, rfl, r, .inl ⟨h.sq hK, fun _ z => nomatch z⟩⟩
mutual
theorem RV.dp {X : Cx} (hK : G.K = X.K) : ∀ {n : Nat} {d : D} {v : V}, dep n d = true → RV G M H d v → Dp X.K H v (pd d)
  | _, _, _, _, .non => by rw [pd]; exact .non
  | _, _, _, _, .bl b => by rw [pd]; exact .bl b
  | _, _, _, _, .int i => by rw [pd]; exact .int i
  | _, _, _, _, .str x => by rw [pd]; exact .str _
  | n, _, _, e, .tup a r => by
    rw [pd]
    cases n with
    | zero => simp [dep] at e
    | succ n => exact .tup (a.sq hK) (RVs.dp hK (n := n) (by simpa [dep] using e) r)
  | n, _, _, e, .scr a r => by
    rw [pd]
    cases n with
    | zero => simp [dep] at e
    | succ n => exact .lst (a.sq hK) (RVs.dp hK (n := n) (by simpa [dep] using e) r)
  | n, _, _, e, .lst f (.lst a r) => by
    rw [pd]
    cases n with
    | zero => simp [dep] at e
    | succ n => exact .lst (.inl (.inl a)) (RVs.dp hK (n := n) (by simpa [dep] using e) r)
  | n, _, _, e, .dct _ _ => by cases n <;> simp [dep] at e
  | n, _, _, e, .set _ _ => by cases n <;> simp [dep] at e
  | n, _, _, e, .ins _ _ => by cases n <;> simp [dep] at e
  | n, _, _, e, .ref _ => by cases n <;> simp [dep] at e
  | n, _, _, e, .gl _ => by cases n <;> simp [dep] at e
  | n, _, _, e, .clo _ _ => by cases n <;> simp [dep] at e
  | n, _, _, e, .exc _ _ _ _ _ => by cases n <;> simp [dep] at e
  | n, _, _, e, .ty _ => by cases n <;> simp [dep] at e
theorem RVs.dp {X : Cx} (hK : G.K = X.K) : ∀ {n : Nat} {l : List D} {vs : List V}, (∀ d ∈ l, dep n d = true) → RVs G M H l vs → DpAll X.K H vs (pds l)
  | _, _, _, _, .nil => .nil
  | n, _, _, e, .cons r t => .cons (RV.dp hK (e _ List.mem_cons_self) r) (RVs.dp hK (fun d hd => e d (List.mem_cons_of_mem _ hd)) t)
end
theorem Vd.dp {X : Cx} (hK : G.K = X.K) {n : Nat} {d : D} {v : V} (e : dep n d = true) (x : Vd G M H d v) : Dp X.K H v (pd d) := by
  rcases x with x | ⟨a, rfl, ro⟩
  · exact x.dp hK e
  · cases ro with
    | lst h r =>
      rw [pd]
      cases n with
      | zero => simp [dep] at e
      | succ n => exact .lst (.inl (.inl h)) (RVs.dp hK (n := n) (by simpa [dep] using e) r)
    | _ => cases n <;> simp [dep] at e
end
theorem log_small {n : Nat} (h : n < 18446744073709551616) : n.log2 < 9000 := by
  by_cases z : n = 0
  · subst z; decide
  · have := (Nat.log2_lt z (k := 64)).mpr h
    omega
section
variable {X : Cx} {G : Gx}
/-- an operator's reading at data -/
def rD (G : Gx) (f : D → D → Option D) : R2 := fun x y H Qv => ∃ d e h M z, RL G h M H ∧ RB G M H d x ∧ RB G M H e y ∧ on2 f h d e = some z ∧ KP G h M H z Qv
theorem tS_app (x y : List Nat) : tS x ++ tS y = tS (x ++ y) := by
  show (⟨(tS x).cps ++ (tS y).cps⟩ : Str) = _
  simp [tS]
theorem tS_len (x : List Nat) : (tS x).length = x.length := by
  show (tS x).cps.size = _
  simp [tS]
theorem op_bin (gk : Gk G) (hK : G.K = X.K) (o : Operator) : OpR X (binaryOp o) (rD G (binE o)) := by
  intro pins s σ H x y v u Qv I rx ry ⟨d', e', h, M, z, rl, bd, be, ez, k⟩
  obtain ⟨d, e, ed, ee, w⟩ := on2_some ez
  have rd := vw_ok rl bd ed
  have re := vw_ok rl be ee
  unfold binE at w
  split at w
  · cases w; cases rd.rv trivial; cases re.rv trivial
    exact op_add pins s σ H _ _ v u Qv I rx ry ⟨_, _, rfl, rfl, k.here rl (.int _)⟩
  · cases w; cases rd.rv trivial; cases re.rv trivial
    exact op_sub pins s σ H _ _ v u Qv I rx ry ⟨_, _, rfl, rfl, k.here rl (.int _)⟩
  · split at w
    · rename_i hm
      cases w; cases rd.rv trivial; cases re.rv trivial
      refine op_mul pins s σ H _ _ v u Qv I rx ry ⟨_, _, rfl, rfl, ?_, k.here rl (.int _)⟩
      show (_ ∧ _) ∨ (_ ∧ _)
      simpa [mulOk] using hm
    · cases w
  · split at w
    · rename_i hm
      cases w; cases rd.rv trivial; cases re.rv trivial
      exact op_fdivW pins s σ H _ _ v u Qv I rx ry ⟨_, _, rfl, rfl, ⟨hm.1, log_small (by omega)⟩, k.here rl (.int _)⟩
    · cases w
  · split at w
    · rename_i hm
      cases w; cases rd.rv trivial; cases re.rv trivial
      exact op_mod pins s σ H _ _ v u Qv I rx ry ⟨_, _, rfl, rfl, hm, k.here rl (.int _)⟩
    · cases w
  · split at w
    · rename_i hm
      cases w; cases rd.rv trivial; cases re.rv trivial
      exact op_pow pins s σ H _ _ v u Qv I rx ry ⟨_, _, rfl, rfl, by show _ ∧ _ ∧ _; simpa [powOk, and_assoc] using hm, k.here rl (.int _)⟩
    · cases w
  · split at w
    · rename_i hm
      cases w; cases rd.rv trivial; cases re.rv trivial
      exact op_shl pins s σ H _ _ v u Qv I rx ry ⟨_, _, rfl, rfl, by show _ ∧ _ ∧ _; simpa [powOk, and_assoc] using hm, k.here rl (.int _)⟩
    · cases w
  · split at w
    · rename_i hm
      cases w; cases rd.rv trivial; cases re.rv trivial
      exact op_add_str pins s σ H _ _ v u Qv I rx ry ⟨_, _, rfl, rfl, by rw [tS_len, tS_len, ← line_eq]; exact hm, by rw [tS_app]; exact k.here rl (.str _)⟩
    · cases w
  · split at w
    · rename_i hm
      cases w
      cases rd.rv trivial with
      | tup h1 r1 =>
        cases re.rv trivial with
        | tup h2 r2 =>
          refine op_catA pins s σ H _ _ v u Qv I rx ry ⟨_, _, _, _, rfl, rfl, h1.sq hK, h2.sq hK, by rw [← r1.length, ← r2.length, ← line_eq]; exact hm, ?_⟩
          refine ⟨fun hx => ?_, fun _ hy => ?_, fun _ _ p hp => k.newTup gk rl (r1.append r2) p hp⟩
          · subst hx; cases r1
            exact k.here rl (.tup h2 r2)
          · subst hy; cases r2
            exact k.here rl (by simpa using RV.tup h1 r1)
    · cases w
  · split at w
    · rename_i hm
      cases w
      obtain ⟨p1, vs1, rfl, e1, r1⟩ := rd.lst
      obtain ⟨p2, vs2, rfl, e2, r2⟩ := re.lst
      exact op_cat pins s σ H _ _ v u Qv I rx ry ⟨_, _, _, _, rfl, rfl, e1, e2, by rw [← r1.length, ← r2.length, ← line_eq]; exact hm, fun p hp => k.newList gk rl (r1.append r2) p hp⟩
    · cases w
  · cases w
theorem isNon_of {M : Mp} {H : Hp} {h : Hh} {d d' : D} {v : V} (rl : RL G h M H) (b : RB G M H d v) (e : vw h d = some d') (gk : Gk G) : decide (v = .non) = isNonD d' := by
  rcases vw_ok rl b e with r | ⟨a, rfl, ro⟩
  · cases r <;> simp [isNonD]
    · intro z; subst z; exact gk.nc _ _ _ _ ‹_›
    · intro z; subst z; exact gk.nx _ _ _ _ ‹_›
  · cases ro <;> simp [isNonD]
theorem room65 {k : Nat} {A : Around} (r : Room k A) : A.units + 65 < cLine := by have := r.un; omega

theorem any_pds (l : List D) (p : PyData) : (pds l).any (fun z => PyData.eqv z p) = l.any fun z => PyData.eqv (pd z) p := by
  rw [pds_map, List.any_map]; rfl
def rC2 (G : Gx) (f : D → D → Option Bool) : R2 := rD G fun a b => (f a b).map D.bl
theorem dep_lst {n : Nat} {l : List D} (h : l.all (dep n) = true) : dep (n + 1) (.lst l) = true := by simpa [dep] using h
theorem op_cmpD (gk : Gk G) (hK : G.K = X.K) (hu' : X.A.units + 65 < cLine) (o : CmpOp) : OpR X (compareOp o) (rC2 G (cmpE o)) := by
  intro pins s σ H x y v u Qv I rx ry ⟨d', e', h, M, z, rl, bd, be, ez, k⟩
  obtain ⟨d, e, ed, ee, w⟩ := on2_some ez
  have rd := vw_ok rl bd ed
  have re := vw_ok rl be ee
  obtain ⟨c, w2, rfl⟩ := Option.map_eq_some_iff.mp w
  clear w ez
  have w := w2
  clear w2
  have kb : Qv (.bl c) H := k.here rl (.bl _)
  have hu : X.A.units + 64 < cLine := by omega
  have ord : ∀ {f : Int → Int → Bool} {g : PyData → PyData → Bool}, ltE d e f g = some c → (∀ i j, d = .int i → e = .int j → f i j = c → wpAny (model X.prog X.w) X.A (compareOp o v u) (EP X pins σ Qv) X.xe s) →
      (∀ as bs, Reads s.heap v (pd d) as → Reads s.heap u (pd e) bs → PySem.W.alike (pd d) (pd e) = true → pd d ≠ .none → SeqAt.shaped (pd d) = true → g (pd d) (pd e) = c → wpAny (model X.prog X.w) X.A (compareOp o v u) (EP X pins σ Qv) X.xe s) → wpAny (model X.prog X.w) X.A (compareOp o v u) (EP X pins σ Qv) X.xe s := by
    intro f g w h1 h2
    unfold ltE at w
    split at w
    · cases w; exact h1 _ _ rfl rfl rfl
    · split at w
      · rename_i ho
        cases w
        simp only [ordOk, Bool.and_eq_true, Bool.not_eq_true'] at ho
        obtain ⟨⟨⟨o1, o2⟩, o3⟩, o4⟩ := ho
        obtain ⟨as, r1⟩ := Dp.reads I _ _ v (rd.dp hK o1) rx
        obtain ⟨bs, r2⟩ := Dp.reads I _ _ u (re.dp hK o2) ry
        refine h2 as bs r1 r2 o3 (fun z => ?_) (shaped_dep o1) rfl
        cases d <;> simp [pd, isNonD, dep] at z o4 o1
      · cases w
  have eqs : ∀ {c' : Bool}, eqE d e = some c' → SeqAt.shaped (pd d) = true ∧ SeqAt.shaped (pd e) = true ∧ Dp X.K H x (pd d) ∧ Dp X.K H y (pd e) ∧ PyData.eqv (pd d) (pd e) = c' := by
    intro c' q
    unfold eqE at q
    split at q
    · rename_i hq
      simp only [Bool.and_eq_true] at hq
      cases q
      exact ⟨shaped_dep hq.1, shaped_dep hq.2, rd.dp hK hq.1, re.dp hK hq.2, rfl⟩
    · cases q
  have ins : ∀ {c' : Bool}, inE d e = some c' → ∃ (p : PyData) (ds : List PyData), Dp X.K H x p ∧ SeqAt.shaped p = true ∧ PyData.canLay0 (.list ds) = true ∧ (ds.any fun z => PyData.eqv z p) = c' ∧ (Dp X.K H y (.list ds) ∨ Dp X.K H y (.tuple ds)) := by
    intro c' q
    unfold inE at q
    obtain ⟨l, e1, q⟩ := Option.bind_eq_some_iff.mp q
    split at q
    · rename_i hq
      simp only [Bool.and_eq_true] at hq
      cases q
      have hl := dep_lst hq.2
      refine ⟨pd d, pds l, rd.dp hK hq.1, shaped_dep hq.1, by have := (canLay_dep 60 _ hl).1; rwa [pd] at this, any_pds _ _, ?_⟩
      obtain ⟨p, vs, rfl, r, ⟨q1, _⟩ | ⟨q1, _⟩⟩ := re.seq hK e1
      · exact .inl (.lst q1 (RVs.dp hK (n := 59) (by simpa using hq.2) r))
      · exact .inr (.tup q1 (RVs.dp hK (n := 59) (by simpa using hq.2) r))
    · cases q
  unfold cmpE at w
  split at w
  · obtain ⟨s1, s2, d1, d2, q⟩ := eqs w
    exact op_eqD hu pins s σ H _ _ v u Qv I rx ry ⟨_, _, d1, d2, s1, s2, by rw [q]; exact kb⟩
  · obtain ⟨c', w2, rfl⟩ := Option.map_eq_some_iff.mp w
    clear w
    have w := w2
    obtain ⟨s1, s2, d1, d2, q⟩ := eqs w
    exact op_neD hu pins s σ H _ _ v u Qv I rx ry ⟨_, _, d1, d2, s1, s2, by rw [q]; exact kb⟩
  · split at w
    · rename_i hn
      cases w
      have : y = .non := by
        have := isNon_of rl be ee gk
        rw [hn] at this
        simpa using this
      exact op_isN pins s σ H _ _ v u Qv I rx ry ⟨this, by rw [isNon_of rl bd ed gk]; exact kb⟩
    · cases w
  · split at w
    · rename_i hn
      cases w
      have : y = .non := by
        have := isNon_of rl be ee gk
        rw [hn] at this
        simpa using this
      exact op_notN pins s σ H _ _ v u Qv I rx ry ⟨this, by rw [isNon_of rl bd ed gk]; exact kb⟩
    · cases w
  · refine ord w (fun i j h1 h2 h3 => ?_) fun as bs r1 r2 al ne sh h3 => PySem.W.lt_data r1 r2 al ne (SeqAt.room_of_shaped sh hu) ⟨.bl _, H, I, rfl, by rw [h3]; exact kb⟩
    subst h1 h2
    cases rd.rv trivial; cases re.rv trivial
    exact op_lt pins s σ H _ _ v u Qv I rx ry ⟨_, _, rfl, rfl, by dsimp only; rw [h3]; exact kb⟩
  · refine ord w (fun i j h1 h2 h3 => ?_) fun as bs r1 r2 al ne sh h3 => PySem.W.le_data r1 r2 al ne (SeqAt.room_of_shaped sh hu) ⟨.bl _, H, I, rfl, by rw [h3]; exact kb⟩
    subst h1 h2
    cases rd.rv trivial; cases re.rv trivial
    exact op_le pins s σ H _ _ v u Qv I rx ry ⟨_, _, rfl, rfl, by dsimp only; rw [h3]; exact kb⟩
  · refine ord w (fun i j h1 h2 h3 => ?_) fun as bs r1 r2 al ne sh h3 => PySem.W.gt_data r1 r2 al ne (SeqAt.room_of_shaped sh hu) ⟨.bl _, H, I, rfl, by rw [h3]; exact kb⟩
    subst h1 h2
    cases rd.rv trivial; cases re.rv trivial
    exact op_gt pins s σ H _ _ v u Qv I rx ry ⟨_, _, rfl, rfl, by dsimp only; rw [h3]; exact kb⟩
  · refine ord w (fun i j h1 h2 h3 => ?_) fun as bs r1 r2 al ne sh h3 => PySem.W.ge_data r1 r2 al ne (SeqAt.room_of_shaped sh hu) ⟨.bl _, H, I, rfl, by rw [h3]; exact kb⟩
    subst h1 h2
    cases rd.rv trivial; cases re.rv trivial
    exact op_ge pins s σ H _ _ v u Qv I rx ry ⟨_, _, rfl, rfl, by dsimp only; rw [h3]; exact kb⟩
  · obtain ⟨p, ds, hx, sp, sq, q, hy⟩ := ins w
    obtain ⟨as, r1⟩ := Dp.reads I p _ v hx rx
    rcases hy with hy | hy
    · obtain ⟨bs, r2⟩ := Dp.reads I _ _ u hy ry
      exact SeqAt.in_list_reads r2 r1 sq (SeqAt.canLay_of_shaped sp) (by have h1 := SeqAt.depth_of_shaped sp; omega) ⟨.bl _, H, I, rfl, by rw [q]; exact kb⟩
    · obtain ⟨bs, r2⟩ := Dp.reads I _ _ u hy ry
      exact SeqAt.in_tuple_reads r2 r1 sq (SeqAt.canLay_of_shaped sp) (by have h1 := SeqAt.depth_of_shaped sp; omega) ⟨.bl _, H, I, rfl, by rw [q]; exact kb⟩
  · obtain ⟨c', w2, rfl⟩ := Option.map_eq_some_iff.mp w
    clear w
    have w := w2
    obtain ⟨p, ds, hx, sp, sq, q, hy⟩ := ins w
    obtain ⟨as, r1⟩ := Dp.reads I p _ v hx rx
    rcases hy with hy | hy
    · obtain ⟨bs, r2⟩ := Dp.reads I _ _ u hy ry
      exact SeqAt.notIn_list_reads r2 r1 sq (SeqAt.canLay_of_shaped sp) (by have h1 := SeqAt.depth_of_shaped sp; omega) ⟨.bl _, H, I, rfl, by rw [q]; exact kb⟩
    · obtain ⟨bs, r2⟩ := Dp.reads I _ _ u hy ry
      exact SeqAt.notIn_tuple_reads r2 r1 sq (SeqAt.canLay_of_shaped sp) (by have h1 := SeqAt.depth_of_shaped sp; omega) ⟨.bl _, H, I, rfl, by rw [q]; exact kb⟩

/-! ### subscripts, slices, truth -/
theorem ix_D (hK : G.K = X.K) : IxR X (rD G ixE) := by
  intro value slice pins s σ H x y v u Qv I rx ry ⟨d', e', h, M, z, rl, bd, be, ez, k⟩ hs
  obtain ⟨d, e, ed, ee, w⟩ := on2_some ez
  have rd := vw_ok rl bd ed
  have re := vw_ok rl be ee
  unfold ixE at w
  split at w
  · cases re.rv trivial
    obtain ⟨l, e1, w⟩ := Option.bind_eq_some_iff.mp w
    obtain ⟨p, vs, rfl, r, ⟨q1, _⟩ | ⟨q1, _⟩⟩ := rd.seq hK e1
    · obtain ⟨vz, e2, r2⟩ := r.at w
      exact ix_list value slice pins s σ H _ _ v u Qv I rx ry ⟨_, _, _, _, rfl, rfl, q1, e2, k.here rl r2⟩ hs
    · obtain ⟨vz, e2, r2⟩ := r.at w
      exact ix_tup value slice pins s σ H _ _ v u Qv I rx ry ⟨_, _, _, _, rfl, rfl, q1, e2, k.here rl r2⟩ hs
  · cases w
theorem RVs.isEmpty {M : Mp} {H : Hp} {l : List D} {xs : List V} (r : RVs G M H l xs) : xs.isEmpty = l.isEmpty := by
  cases r <;> rfl
theorem tru_D (hK : G.K = X.K) {M : Mp} {H : Hp} {h : Hh} {d : D} {v : V} {c : Bool} (rl : RL G h M H) (bd : RB G M H d v) (w : on1 truE h d = some c) : TruV X.K v H c := by
  unfold on1 at w
  obtain ⟨d', ed, w⟩ := Option.bind_eq_some_iff.mp w
  have rd := vw_ok rl bd ed
  unfold truE at w
  split at w
  · cases w; cases rd.rv trivial; rfl
  · cases w; cases rd.rv trivial; rfl
  · cases w; cases rd.rv trivial; rfl
  · cases w
    cases rd.rv trivial with
    | tup h1 r1 => exact .inr (.inl ⟨_, h1.sq hK, by rw [r1.isEmpty]⟩)
  · cases w
    obtain ⟨p, vs, rfl, h1, r1⟩ := rd.lst
    exact .inl ⟨_, SqL.of h1, by rw [r1.isEmpty]⟩
  · cases w
theorem cut_whole {l : List D} {lo hi : Option Int} (h1 : HT.sIx l.length 0 lo = 0) (h2 : HT.sIx l.length l.length hi = l.length) : cutD l lo hi = l := by
  unfold cutD
  rw [h1, h2]
  simp
def rS (G : Gx) : V → Option Int → Option Int → Hp → VK → Prop := fun x lo hi H Qv => ∃ d h M z, RL G h M H ∧ RB G M H d x ∧ on1 (slE · lo hi) h d = some z ∧ KP G h M H z Qv
theorem sl_D (gk : Gk G) (hK : G.K = X.K) : SlR X (rS G) := by
  intro pins s σ H x v vl vu lo hi sl Qv I rx hs pl pu ⟨d', h, M, z, rl, bd, w, k⟩
  unfold on1 at w
  obtain ⟨d, ed, w⟩ := Option.bind_eq_some_iff.mp w
  have rd := vw_ok rl bd ed
  unfold slE at w
  split at w
  · cases w
    cases rd.rv trivial with
    | tup h1 r1 =>
      refine sl_tupA pins s σ H _ v vl vu lo hi sl Qv I rx hs pl pu ⟨_, _, rfl, h1.sq hK, fun hw => ?_, fun _ p hp => k.newTup gk rl r1.cut p hp⟩
      rw [cut_whole (by rw [r1.length]; exact hw.1) (by rw [r1.length]; exact hw.2)] at k
      exact k.here rl (.tup h1 r1)
  · cases w
    obtain ⟨p, zs, rfl, h1, r2⟩ := rd.lst
    exact sl_list pins s σ H _ v vl vu lo hi sl Qv I rx hs pl pu ⟨_, _, rfl, SqL.of h1, fun p hp => k.newList gk rl r2.cut p hp⟩
  · cases w
    cases rd.rv trivial with
    | scr h1 r2 => exact sl_list pins s σ H _ v vl vu lo hi sl Qv I rx hs pl pu ⟨_, _, rfl, h1.sq hK, fun p hp => k.newList gk rl r2.cut p hp⟩
  · cases w
end
end Pf

set_option Elab.async false
set_option linter.all false
set_option maxRecDepth 100000
/-! ## Expressions -/
namespace Pf
open PySem L2
section
variable {X : Cx} {G : Gx} {ck : Ck} {k : Nat} {Wx : WX} {a b c : Expr} {pos p2 p3 : Pos} {σ : St} {H : Hp} {M : Mp} {h : Hh} {r : Rho}
theorem vis_of (C : Cok X G ck k Wx) {y : Str} (h : visB ck y = true) : Vis X.env.scope y := by
  unfold Vis; rw [C.hsc]
  unfold visB at h
  split at h
  · exact .inl (by assumption)
  · exact .inr (.inl (by assumption))
  · exact .inr (.inr (by assumption))
  · cases h
theorem gl_of (C : Cok X G ck k Wx) {y : Str} (h : globB ck y = true) : Gl X y ∧ (y == ("__debug__" : Str)) = false ∧ y ≠ "__name__" := by
  unfold globB at h
  simp only [Bool.and_eq_true, Bool.not_eq_true'] at h
  obtain ⟨⟨h1, h2⟩, h3⟩ := h
  refine ⟨?_, h2, fun z => by rw [z] at h3; simp at h3⟩
  show X.env.scope.names.lookup y = _
  rw [C.hsc]
  split at h1
  · assumption
  · cases h1
theorem nomarkS {o : CmpOp} (h : notSet b = true) : behindInMarks o b = false := by
  cases b <;> first | rfl | (simp [notSet] at h)
theorem plainIx_of (h : notSlice b = true) : PlainIx b := by
  intro o i
  cases b <;> first | rfl | (simp [notSlice] at h)
/-- the end of a pure operation -/
theorem fin2 {f : D → D → Option D} {d e : D} {v u : V} {Qv : VK} (k2 : KG (RV G) G Wx σ M H Qv (ofO (on2 f h d e) h)) (rl : RL G h M H) (b1 : RB G M H d v) (b2 : RB G M H e u) : rD G f v u H Qv := by
  cases q : on2 f h d e with
  | none => rw [q] at k2; exact k2.elim
  | some z => rw [q] at k2; exact ⟨d, e, h, M, z, rl, b1, b2, q, k2⟩
end
def nm : Expr → Option Str
  | .Name x _ => some x
  | _ => none
theorem nm_some {a : Expr} {x : Str} (h : nm a = some x) : ∃ p, a = .Name x p := by
  cases a <;> simp [nm] at h
  subst h; exact ⟨_, rfl⟩
def varB (i : Nat) (ck : Ck) (a : Expr) : Bool := match nm a with
  | some x => atB ck i x && visB ck x && !(x == ("__debug__" : Str)) && !(x == ("__classdict__" : Str))
  | none => false
theorem varB_star {i : Nat} {ck : Ck} {a : Expr} (h : varB i ck a = true) : notStar a = true := by
  cases a <;> first | rfl | (simp [varB, nm] at h)
theorem pe_varB {X : Cx} {G : Gx} {ck : Ck} {k : Nat} {Wx : WX} {a : Expr} {i : Nat} (C : Cok X G ck k Wx) (h : varB i ck a = true) : PE X a (fun σ H Qv => ∃ v, σ[i]? = some (some v) ∧ Qv v H) := by
  unfold varB at h
  cases e : nm a with
  | none => rw [e] at h; cases h
  | some x =>
    rw [e] at h
    obtain ⟨p, rfl⟩ := nm_some e
    simp only [Bool.and_eq_true, Bool.not_eq_true', atB, decide_eq_true_eq] at h
    exact pe_var (by rw [C.hN]; exact h.1.1.1) (vis_of C h.1.1.2) h.1.2 h.2
/-- a name's value -/
def Xp.v (i : Nat) : Xp where
  sem r h := match r[i]? with
    | some (.pl d) => .ok d h
    | _ => .no
  ok := varB i
  need _ := True
  star _ _ h := varB_star h
  snd C h _ := PE.imp (pe_varB C h) fun σ H Qv ⟨r, h, M, rl, re, k⟩ => by
    dsimp only at k
    split at k
    · rename_i d e
      obtain ⟨v, e1, r1⟩ := re.pl i d e
      exact ⟨v, e1, k.here rl r1⟩
    · exact k.elim
/-- a name as an operand: what it holds is looked at alone -/
def Xo.v (i : Nat) : Xo where
  sem r h := match r[i]? with
    | some (.pl d) => .ok d h
    | some (.ow d) => .ok d h
    | _ => .no
  ok := varB i
  need _ := True
  star _ _ h := varB_star h
  snd C h _ := PE.imp (pe_varB C h) fun σ H Qv ⟨r, h, M, rl, re, k⟩ => by
    dsimp only at k
    split at k
    · rename_i d e
      obtain ⟨v, e1, r1⟩ := re.pl i d e
      exact ⟨v, e1, k.here rl (.inl r1)⟩
    · rename_i d e
      obtain ⟨a, e1, ro, n, nf⟩ := re.ow i d e
      exact ⟨_, e1, k.here rl (.inr ⟨a, rfl, ro, n⟩)⟩
    · exact k.elim
def constB : Const → D → Bool
  | .none, .non => true
  | .bool b, .bl c => b == c
  | .int i, .int j => i == j
  | .str x, .str y => x == tS y
  | _, _ => false
def cstB (d : D) : Expr → Bool
  | .Constant k _ _ => constB k d
  | _ => false
/-- a constant -/
def Xp.c (d : D) : Xp where
  sem _ h := .ok d h
  ok _ := cstB d
  need _ := True
  star _ a h := by cases a <;> first | rfl | (simp [cstB] at h)
  snd {X G ck k Wx a} C h _ := by
    cases a <;> simp only [cstB, Bool.false_eq_true] at h
    unfold constB at h
    split at h
    · exact PE.imp pe_non fun σ H Qv ⟨r, h, M, rl, re, k⟩ => k.here rl .non
    · have e := eq_of_beq h; subst e
      exact PE.imp pe_bl fun σ H Qv ⟨r, h, M, rl, re, k⟩ => k.here rl (.bl _)
    · have e := eq_of_beq h; subst e
      exact PE.imp pe_int fun σ H Qv ⟨r, h, M, rl, re, k⟩ => k.here rl (.int _)
    · have e := eq_of_beq h; subst e
      exact PE.imp pe_str fun σ H Qv ⟨r, h, M, rl, re, k⟩ => k.here rl (.str _)
    · cases h
def glB (y : Str) (ck : Ck) (a : Expr) : Bool := match nm a with
  | some x => x == y && globB ck x
  | none => false
/-- a constant of the module -/
def Xp.g (y : Str) (d : D) : Xp where
  sem _ h := .ok d h
  ok := glB y
  need t := GvL t y d
  star _ a h := by cases a <;> first | rfl | (simp [glB, nm] at h)
  snd {X G ck k Wx a} C h o := by
    unfold glB at h
    cases e : nm a with
    | none => rw [e] at h; cases h
    | some x =>
      rw [e] at h
      obtain ⟨p, rfl⟩ := nm_some e
      simp only [Bool.and_eq_true, beq_iff_eq] at h
      obtain ⟨rfl, h⟩ := h
      obtain ⟨g1, g2, g3⟩ := gl_of C h
      obtain ⟨u, v, e, rv, rd⟩ := o
      exact PE.imp (pe_glob g1 (by rw [← C.hmg]; exact e) rv g2) fun σ H Qv ⟨r, h, M, rl, re, k⟩ => k.here rl (rd _ _)
def Xp.neg (x : Xp) : Xp where
  sem r h := (x.sem r h).bind fun d h1 => match d with
    | .int i => .ok (.int (-i)) h1
    | _ => .no
  ok ck a := match a with
    | .UnaryOp .USub y _ => x.ok ck y
    | _ => false
  need := x.need
  star _ a h := by cases a <;> first | rfl | (simp at h)
  snd {X G ck k Wx a} C h n := by
    split at h
    · refine PE.imp (pe_un un_neg (x.snd C h n)) fun σ H Qv ⟨r, h, M, rl, re, k⟩ => ⟨r, h, M, rl, re, one k fun d v h1 M1 H1 e1 r1 rv k1 => ?_⟩
      try dsimp only at k1
      split at k1
      · cases rv
        exact ⟨_, rfl, k1.here r1 (.int _)⟩
      · exact k1.elim
    · cases h
def Xp.bin (o : Operator) (x y : Xo) : Xp where
  sem r h := (x.sem r h).bind fun d h1 => (y.sem r h1).bind fun e h2 => ofO (on2 (binE o) h2 d e) h2
  ok ck a := match a with
    | .BinOp u p v _ => decide (p = o) && x.ok ck u && y.ok ck v
    | _ => false
  need t := x.need t ∧ y.need t
  star _ a h := by cases a <;> first | rfl | (simp at h)
  snd {X G ck k Wx a} C h n := by
    split at h
    · simp only [Bool.and_eq_true, decide_eq_true_eq] at h
      obtain ⟨⟨rfl, h1⟩, h2⟩ := h
      exact PE.imp (pe_op (op_bin C.gk C.hK _) (x.snd C h1 n.1) (y.snd C h2 n.2)) fun σ H Qv ⟨r, h, M, rl, re, k⟩ => ⟨r, h, M, rl, re, one k fun d v h1 M1 H1 e1 r1 b1 k1 =>
        ⟨r, h1, M1, r1, re.ext C.gk rl e1, one k1 fun e u h2 M2 H2 e2 r2 b2 k2 => fin2 k2 r2 (b1.ext C.gk r1 e2) b2⟩⟩
    · cases h
def ofB (o : Option Bool) (h : Hh) : Res D := ofO (o.map D.bl) h
theorem on2_map {f : D → D → Option Bool} {h : Hh} {d e : D} : (on2 f h d e).map D.bl = on2 (fun a b => (f a b).map D.bl) h d e := by
  unfold on2
  cases vw h d <;> simp
  cases vw h e <;> simp
def cmpB (o : CmpOp) (x y : Ck → Expr → Bool) (ck : Ck) (a : Expr) : Bool := match a with
  | .Compare u [p] [v] _ => decide (p = o) && x ck u && y ck v && notSet v
  | _ => false
theorem cmpB_some {o : CmpOp} {x y : Ck → Expr → Bool} {ck : Ck} {a : Expr} (h : cmpB o x y ck a = true) : ∃ u v p, a = .Compare u [o] [v] p ∧ x ck u = true ∧ y ck v = true ∧ notSet v = true := by
  unfold cmpB at h
  split at h
  · simp only [Bool.and_eq_true, decide_eq_true_eq] at h
    obtain ⟨⟨⟨rfl, h1⟩, h2⟩, h3⟩ := h
    exact ⟨_, _, _, rfl, h1, h2, h3⟩
  · cases h
theorem cmpB_star {o : CmpOp} {x y : Ck → Expr → Bool} {ck : Ck} {a : Expr} (h : cmpB o x y ck a = true) : notStar a = true := by
  obtain ⟨u, v, p, rfl, _⟩ := cmpB_some h; rfl
section
variable {X : Cx} {G : Gx} {ck : Ck} {k : Nat} {Wx : WX}
theorem rd_cmp (C : Cok X G ck k Wx) {σ : St} {H : Hp} {M : Mp} {h : Hh} {r : Rho} {o : CmpOp} {x y : Xo} {Qv : VK} (rl : RL G h M H) (re : RE G M H r σ)
    (k1 : KG (RV G) G Wx σ M H Qv ((x.sem r h).bind fun d h1 => (y.sem r h1).bind fun e h2 => ofB (on2 (cmpE o) h2 d e) h2)) :
    tG (RB G) G Wx x.sem σ H fun v H1 => tG (RB G) G Wx y.sem σ H1 fun u H2 => rC2 G (cmpE o) v u H2 Qv :=
  ⟨r, h, M, rl, re, one k1 fun d v h1 M1 H1 e1 r1 b1 k1 => ⟨r, h1, M1, r1, re.ext C.gk rl e1, one k1 fun e u h2 M2 H2 e2 r2 b2 k2 => by
    unfold ofB at k2
    rw [on2_map] at k2
    exact fin2 k2 r2 (b1.ext C.gk r1 e2) b2⟩⟩
end
def Xp.cmp (o : CmpOp) (x y : Xo) : Xp where
  sem r h := (x.sem r h).bind fun d h1 => (y.sem r h1).bind fun e h2 => ofB (on2 (cmpE o) h2 d e) h2
  ok := cmpB o x.ok y.ok
  need t := x.need t ∧ y.need t
  star _ _ h := cmpB_star h
  snd {X G ck k Wx a} C h n := by
    obtain ⟨u, v, p, rfl, h1, h2, h3⟩ := cmpB_some h
    exact PE.imp (pe_cmpR (op_cmpD C.gk C.hK (room65 C.room) o) (x.snd C h1 n.1) (y.snd C h2 n.2) (nomarkS h3)) fun σ H Qv ⟨r, h, M, rl, re, k⟩ => rd_cmp C rl re k
/-- a comparison as a test -/
def Xt.cmp (o : CmpOp) (x y : Xo) : Xt where
  sem r h := (x.sem r h).bind fun d h1 => (y.sem r h1).bind fun e h2 => ofO (on2 (cmpE o) h2 d e) h2
  ok := cmpB o x.ok y.ok
  need t := x.need t ∧ y.need t
  snd {X G ck k Wx a} C h n := by
    obtain ⟨u, v, p, rfl, h1, h2, h3⟩ := cmpB_some h
    refine PT.imp (pt_cmpR (op_cmpD C.gk C.hK (room65 C.room) o) (x.snd C h1 n.1) (y.snd C h2 n.2) (nomarkS h3)) fun σ H Qv ⟨r, h, M, rl, re, k⟩ => rd_cmp C rl re ?_
    dsimp only at k
    cases q1 : x.sem r h with
    | no => rw [q1] at k; exact k
    | exc c fs h' => rw [q1] at k; exact k
    | ok d h1 =>
      rw [q1] at k
      simp only [bind_ok] at k ⊢
      cases q2 : y.sem r h1 with
      | no => rw [q2] at k; exact k
      | exc c fs h' => rw [q2] at k; exact k
      | ok e h2 =>
        rw [q2] at k
        simp only [bind_ok] at k ⊢
        unfold ofB
        cases q3 : on2 (cmpE o) h2 d e with
        | none => rw [q3] at k; exact k.elim
        | some c =>
          rw [q3] at k
          intro v M' H' e' r' rv
          cases rv
          exact ⟨_, rfl, k c M' H' e' r' rfl⟩
/-- any expression as a test -/
def Xt.e (x : Xo) : Xt where
  sem r h := (x.sem r h).bind fun d h1 => ofO (on1 truE h1 d) h1
  ok ck a := x.ok ck a && plainTest a
  need := x.need
  snd {X G ck k Wx a} C h n := by
    simp only [Bool.and_eq_true] at h
    refine PT.imp (pt_truth (x.snd C h.1 n) ?_) fun σ H Qv ⟨r, h, M, rl, re, k⟩ => ⟨r, h, M, rl, re, one k fun d v h1 M1 H1 e1 r1 b1 k1 => ?_⟩
    · intro wh
      have ht := h.2
      cases a with
      | UnaryOp o y p =>
        cases o <;> first | rfl | (simp [plainTest] at ht)
      | _ => first | rfl | (simp [plainTest] at ht)
    · cases q : on1 truE h1 d with
      | none => rw [q] at k1; exact k1.elim
      | some c =>
        rw [q] at k1
        exact ⟨c, tru_D C.hK r1 b1 q, k1 c M1 H1 Ext.refl r1 rfl⟩
def Xt.not (x : Xt) : Xt where
  sem r h := (x.sem r h).bind fun d h1 => .ok (!d) h1
  ok ck a := match a with
    | .UnaryOp .Not y _ => x.ok ck y
    | _ => false
  need := x.need
  snd {X G ck k Wx a} C h n := by
    split at h
    · exact PT.imp (pt_not (x.snd C h n)) fun σ H Qv ⟨r, h, M, rl, re, k⟩ => ⟨r, h, M, rl, re, one k fun d v h1 M1 H1 e1 r1 b1 k1 => by
        cases b1
        exact k1 _ M1 H1 Ext.refl r1 rfl⟩
    · cases h
/-- and, or over tests: the rest of a chain -/
def boolB (o : BoolOp) (x y : Ck → Expr → Bool) (ck : Ck) (a : Expr) : Bool := match a with
  | .BoolOp p (u :: v :: r) q => decide (p = o) && x ck u && y ck (if r.isEmpty then v else .BoolOp o (v :: r) q)
  | _ => false
theorem boolB_some {o : BoolOp} {x y : Ck → Expr → Bool} {ck : Ck} {a : Expr} (h : boolB o x y ck a = true) : ∃ u v r q, a = .BoolOp o (u :: v :: r) q ∧ x ck u = true ∧ y ck (if r.isEmpty then v else .BoolOp o (v :: r) q) = true := by
  unfold boolB at h
  split at h
  · simp only [Bool.and_eq_true, decide_eq_true_eq] at h
    obtain ⟨⟨rfl, h1⟩, h2⟩ := h
    exact ⟨_, _, _, _, rfl, h1, h2⟩
  · cases h
def Xt.and (x y : Xt) : Xt where
  sem r h := (x.sem r h).bind fun d h1 => if d then y.sem r h1 else .ok false h1
  ok := boolB .And x.ok y.ok
  need t := x.need t ∧ y.need t
  snd {X G ck k Wx a} C h n := by
    obtain ⟨u, v, rest, q, rfl, h1, h2⟩ := boolB_some h
    have hy : PW X (.BoolOp .And (v :: rest) q) (tG (fun _ _ (b c : Bool) => b = c) G Wx y.sem) := by
      cases rest with
      | nil => exact pw_and1 (y.snd C h2 n.2)
      | cons z w =>
        have := y.snd C h2 n.2
        exact ⟨fun wh pins s σ H Q I t => this.run pins s σ H Q I t⟩
    refine PT.imp (pw_and (x.snd C h1 n.1) hy).pt fun σ H Qv ⟨r, h, M, rl, re, k⟩ => ⟨r, h, M, rl, re, one k fun d v h1 M1 H1 e1 r1 b1 k1 => ?_⟩
    cases b1
    cases d with
    | true => exact ⟨r, h1, M1, r1, re.ext C.gk rl e1, k1⟩
    | false => exact k1 _ M1 H1 Ext.refl r1 rfl
def Xt.or (x y : Xt) : Xt where
  sem r h := (x.sem r h).bind fun d h1 => if d then .ok true h1 else y.sem r h1
  ok := boolB .Or x.ok y.ok
  need t := x.need t ∧ y.need t
  snd {X G ck k Wx a} C h n := by
    obtain ⟨u, v, rest, q, rfl, h1, h2⟩ := boolB_some h
    have hy : PW X (.BoolOp .Or (v :: rest) q) (tG (fun _ _ (b c : Bool) => b = c) G Wx y.sem) := by
      cases rest with
      | nil => exact pw_or1 (y.snd C h2 n.2)
      | cons z w =>
        have := y.snd C h2 n.2
        exact ⟨fun wh pins s σ H Q I t => this.run pins s σ H Q I t⟩
    refine PT.imp (pw_or (x.snd C h1 n.1) hy).pt fun σ H Qv ⟨r, h, M, rl, re, k⟩ => ⟨r, h, M, rl, re, one k fun d v h1 M1 H1 e1 r1 b1 k1 => ?_⟩
    cases b1
    cases d with
    | true => exact k1 _ M1 H1 Ext.refl r1 rfl
    | false => exact ⟨r, h1, M1, r1, re.ext C.gk rl e1, k1⟩
theorem boolB_star {o : BoolOp} {x y : Ck → Expr → Bool} {ck : Ck} {a : Expr} (h : boolB o x y ck a = true) : notStar a = true := by
  obtain ⟨u, v, r, q, rfl, _⟩ := boolB_some h; rfl
/-- and, or as values: all but the last are truths -/
def Xp.and (x y : Xp) : Xp where
  sem r h := (x.sem r h).bind fun d h1 => match d with
    | .bl true => y.sem r h1
    | .bl false => .ok (.bl false) h1
    | _ => .no
  ok := boolB .And x.ok y.ok
  need t := x.need t ∧ y.need t
  star _ _ h := boolB_star h
  snd {X G ck k Wx a} C h n := by
    obtain ⟨u, v, rest, q, rfl, h1, h2⟩ := boolB_some h
    have hy : PE X (.BoolOp .And (v :: rest) q) (tG (RV G) G Wx y.sem) := by
      cases rest with
      | nil => exact pe_one (y.snd C h2 n.2)
      | cons z w => exact y.snd C h2 n.2
    refine PE.imp (pe_and (x.snd C h1 n.1) hy) fun σ H Qv ⟨r, h, M, rl, re, k⟩ => ⟨r, h, M, rl, re, one k fun d v h1 M1 H1 e1 r1 b1 k1 => ?_⟩
    try dsimp only at k1
    split at k1
    · cases b1
      exact ⟨_, rfl, r, h1, M1, r1, re.ext C.gk rl e1, k1⟩
    · cases b1
      exact ⟨_, rfl, k1.here r1 (.bl _)⟩
    · exact k1.elim
def Xp.or (x y : Xp) : Xp where
  sem r h := (x.sem r h).bind fun d h1 => match d with
    | .bl false => y.sem r h1
    | .bl true => .ok (.bl true) h1
    | _ => .no
  ok := boolB .Or x.ok y.ok
  need t := x.need t ∧ y.need t
  star _ _ h := boolB_star h
  snd {X G ck k Wx a} C h n := by
    obtain ⟨u, v, rest, q, rfl, h1, h2⟩ := boolB_some h
    have hy : PE X (.BoolOp .Or (v :: rest) q) (tG (RV G) G Wx y.sem) := by
      cases rest with
      | nil => exact pe_one (y.snd C h2 n.2)
      | cons z w => exact y.snd C h2 n.2
    refine PE.imp (pe_or (x.snd C h1 n.1) hy) fun σ H Qv ⟨r, h, M, rl, re, k⟩ => ⟨r, h, M, rl, re, one k fun d v h1 M1 H1 e1 r1 b1 k1 => ?_⟩
    try dsimp only at k1
    split at k1
    · cases b1
      exact ⟨_, rfl, r, h1, M1, r1, re.ext C.gk rl e1, k1⟩
    · cases b1
      exact ⟨_, rfl, k1.here r1 (.bl _)⟩
    · exact k1.elim
def Xp.not (x : Xp) : Xp where
  sem r h := (x.sem r h).bind fun d h1 => match d with
    | .bl b => .ok (.bl (!b)) h1
    | _ => .no
  ok ck a := match a with
    | .UnaryOp .Not y _ => x.ok ck y
    | _ => false
  need := x.need
  star _ a h := by cases a <;> first | rfl | (simp at h)
  snd {X G ck k Wx a} C h n := by
    split at h
    · refine PE.imp (pe_not (x.snd C h n)) fun σ H Qv ⟨r, h, M, rl, re, k⟩ => ⟨r, h, M, rl, re, one k fun d v h1 M1 H1 e1 r1 b1 k1 => ?_⟩
      try dsimp only at k1
      split at k1
      · cases b1
        exact ⟨_, rfl, k1.here r1 (.bl _)⟩
      · exact k1.elim
    · cases h
def Xp.ite (t : Xt) (x y : Xp) : Xp where
  sem r h := (t.sem r h).bind fun d h1 => if d then x.sem r h1 else y.sem r h1
  ok ck a := match a with
    | .IfExp c u v _ => t.ok ck c && x.ok ck u && y.ok ck v
    | _ => false
  need z := t.need z ∧ x.need z ∧ y.need z
  star _ a h := by cases a <;> first | rfl | (simp at h)
  snd {X G ck k Wx a} C h n := by
    split at h
    · simp only [Bool.and_eq_true] at h
      refine PE.imp (pe_ifExp (t.snd C h.1.1 n.1) (x.snd C h.1.2 n.2.1) (y.snd C h.2 n.2.2)) fun σ H Qv ⟨r, h, M, rl, re, k⟩ => ⟨r, h, M, rl, re, one k fun d v h1 M1 H1 e1 r1 b1 k1 => ?_⟩
      cases b1
      cases d with
      | true => exact ⟨r, h1, M1, r1, re.ext C.gk rl e1, k1⟩
      | false => exact ⟨r, h1, M1, r1, re.ext C.gk rl e1, k1⟩
    · cases h
/-- a < b < c -/
def chainB (o p : CmpOp) (x y z : Ck → Expr → Bool) (ck : Ck) (a : Expr) : Bool := match a with
  | .Compare u [q, s] [v, w] _ => decide (q = o) && decide (s = p) && x ck u && y ck v && z ck w && notSet w
  | _ => false
theorem chainB_some {o p : CmpOp} {x y z : Ck → Expr → Bool} {ck : Ck} {a : Expr} (h : chainB o p x y z ck a = true) : ∃ u v w q, a = .Compare u [o, p] [v, w] q ∧ x ck u = true ∧ y ck v = true ∧ z ck w = true ∧ notSet w = true := by
  unfold chainB at h
  split at h
  · simp only [Bool.and_eq_true, decide_eq_true_eq] at h
    obtain ⟨⟨⟨⟨⟨rfl, rfl⟩, h1⟩, h2⟩, h3⟩, h4⟩ := h
    exact ⟨_, _, _, _, rfl, h1, h2, h3, h4⟩
  · cases h
def chainS (o p : CmpOp) (x y z : Xo) (r : Rho) (h : Hh) : Res D := (x.sem r h).bind fun d h1 => (y.sem r h1).bind fun e h2 => (ofO (on2 (cmpE o) h2 d e) h2).bind fun b h3 => if b then (z.sem r h3).bind fun f h4 => ofB (on2 (cmpE p) h4 e f) h4 else .ok (.bl false) h3
theorem chain_rd {X : Cx} {G : Gx} {ck : Ck} {k : Nat} {Wx : WX} (C : Cok X G ck k Wx) {σ : St} {H : Hp} {M : Mp} {h : Hh} {r : Rho} {o p : CmpOp} {x y z : Xo} {Qv : VK} (rl : RL G h M H) (re : RE G M H r σ) (k1 : KG (RV G) G Wx σ M H Qv (chainS o p x y z r h)) :
    tChain (rC2 G (cmpE o)) (rC2 G (cmpE p)) (tG (RB G) G Wx x.sem) (tG (RB G) G Wx y.sem) (tG (RB G) G Wx z.sem) σ H Qv := by
  unfold chainS at k1
  refine ⟨r, h, M, rl, re, one k1 fun d v h1 M1 H1 e1 r1 b1 k1 => ⟨r, h1, M1, r1, re.ext C.gk rl e1, one k1 fun e u h2 M2 H2 e2 r2 b2 k2 => ?_⟩⟩
  cases q : on2 (cmpE o) h2 d e with
  | none => rw [q] at k2; exact k2.elim
  | some c =>
    rw [q] at k2
    simp only [ofO_some, bind_ok] at k2
    refine ⟨d, e, h2, M2, .bl c, r2, b1.ext C.gk r1 e2, b2, by rw [← on2_map, q]; rfl, fun w M3 H3 e3 r3 rv => ?_⟩
    cases rv
    refine ⟨c, rfl, ?_⟩
    cases c with
    | false => exact k2 _ M3 H3 e3 r3 (.bl _)
    | true =>
      simp only [if_true] at k2 ⊢
      have k3 := k2.back e3
      refine ⟨r, h2, M3, r3, ((re.ext C.gk rl e1).ext C.gk r1 e2).ext C.gk r2 e3, one k3 fun f w h4 M4 H4 e4 r4 b4 k4 => ?_⟩
      unfold ofB at k4
      rw [on2_map] at k4
      exact fin2 k4 r4 ((b2.ext C.gk r2 e3).ext C.gk r3 e4) b4
def Xp.chain (o p : CmpOp) (x y z : Xo) : Xp where
  sem := chainS o p x y z
  ok := chainB o p x.ok y.ok z.ok
  need t := x.need t ∧ y.need t ∧ z.need t
  star _ a h := by obtain ⟨u, v, w, q, rfl, _⟩ := chainB_some h; rfl
  snd {X G ck k Wx a} C h n := by
    obtain ⟨u, v, w, q, rfl, h1, h2, h3, h4⟩ := chainB_some h
    exact PE.imp (pe_chain (op_cmpD C.gk C.hK (room65 C.room) o) (op_cmpD C.gk C.hK (room65 C.room) p) (x.snd C h1 n.1) (y.snd C h2 n.2.1) (z.snd C h3 n.2.2) (nomarkS (o := p) h4)) fun σ H Qv ⟨r, h, M, rl, re, k⟩ => chain_rd C rl re k
def toB : D → Option Bool
  | .bl b => some b
  | _ => none
def Xt.chain (o p : CmpOp) (x y z : Xo) : Xt where
  sem r h := (chainS o p x y z r h).bind fun d h1 => ofO (toB d) h1
  ok := chainB o p x.ok y.ok z.ok
  need t := x.need t ∧ y.need t ∧ z.need t
  snd {X G ck k Wx a} C h n := by
    obtain ⟨u, v, w, q, rfl, h1, h2, h3, h4⟩ := chainB_some h
    refine PT.imp (pt_chain (op_cmpD C.gk C.hK (room65 C.room) o) (op_cmpD C.gk C.hK (room65 C.room) p) (x.snd C h1 n.1) (y.snd C h2 n.2.1) (z.snd C h3 n.2.2) (nomarkS (o := p) h4)) fun σ H Qv ⟨r, h, M, rl, re, k⟩ => chain_rd C rl re (one k fun d v h1 M1 H1 e1 r1 b1 k1 => ?_)
    cases d <;> simp only [toB, ofO_some, ofO_none] at k1 <;> first
      | exact k1.elim
      | (cases b1; exact ⟨_, rfl, k1 _ M1 H1 Ext.refl r1 rfl⟩)
def Xp.ix (x y : Xo) : Xp where
  sem r h := (x.sem r h).bind fun d h1 => (y.sem r h1).bind fun e h2 => ofO (on2 ixE h2 d e) h2
  ok ck a := match a with
    | .Subscript u v _ => x.ok ck u && y.ok ck v && notSlice v
    | _ => false
  need t := x.need t ∧ y.need t
  star _ a h := by cases a <;> first | rfl | (simp at h)
  snd {X G ck k Wx a} C h n := by
    split at h
    · simp only [Bool.and_eq_true] at h
      exact PE.imp (pe_ix (ix_D C.hK) (x.snd C h.1.1 n.1) (y.snd C h.1.2 n.2) (plainIx_of h.2)) fun σ H Qv ⟨r, h, M, rl, re, k⟩ => ⟨r, h, M, rl, re, one k fun d v h1 M1 H1 e1 r1 b1 k1 =>
        ⟨r, h1, M1, r1, re.ext C.gk rl e1, one k1 fun e u h2 M2 H2 e2 r2 b2 k2 => fin2 k2 r2 (b1.ext C.gk r1 e2) b2⟩⟩
    · cases h
/-- an end of a slice -/
def semO : Option Xp → Rho → Hh → Res (Option Int)
  | none, _, h => .ok none h
  | some x, r, h => (x.sem r h).bind fun d h1 => match d with
    | .int i => .ok (some i) h1
    | _ => .no
def okO : Option Xp → Ck → Option Expr → Bool
  | none, _, e => e.isNone
  | some x, ck, e => match e with
    | some y => x.ok ck y
    | none => false
def needO : Option Xp → Tb → Prop
  | none, _ => True
  | some x, t => x.need t
theorem sndO (o : Option Xp) {X : Cx} {G : Gx} {ck : Ck} {k : Nat} {Wx : WX} {a : Option Expr} (C : Cok X G ck k Wx) (h : okO o ck a = true) (n : needO o (tbOf X G k)) : PO X a (tG (fun _ _ (b c : Option Int) => b = c) G Wx (semO o)) := by
  cases o with
  | none =>
    cases a with
    | some a => simp [okO] at h
    | none => exact ⟨fun pins s σ H Qv I ⟨r, h, M, rl, re, k⟩ => po_none.run pins s σ H Qv I (k _ M H Ext.refl rl rfl)⟩
  | some x =>
    cases a with
    | none => simp [okO] at h
    | some a =>
      refine ⟨fun pins s σ H Qv I ⟨r, h', M, rl, re, k⟩ => (po_some (x.snd C h n)).run pins s σ H Qv I ⟨r, h', M, rl, re, one k fun d v h1 M1 H1 e1 r1 b1 k1 => ?_⟩⟩
      try dsimp only at k1
      split at k1
      · cases b1
        exact ⟨_, rfl, k1 _ M1 H1 Ext.refl r1 rfl⟩
      · exact k1.elim
def Xp.sl (x : Xo) (lo hi : Option Xp) : Xp where
  sem r h := (x.sem r h).bind fun d h1 => (semO lo r h1).bind fun l h2 => (semO hi r h2).bind fun u h3 => ofO (on1 (slE · l u) h3 d) h3
  ok ck a := match a with
    | .Subscript u (.Slice l w none _) _ => x.ok ck u && okO lo ck l && okO hi ck w
    | _ => false
  need t := x.need t ∧ needO lo t ∧ needO hi t
  star _ a h := by cases a <;> first | rfl | (simp at h)
  snd {X G ck k Wx a} C h n := by
    split at h
    · simp only [Bool.and_eq_true] at h
      refine PE.imp (pe_slice (sl_D C.gk C.hK) (x.snd C h.1.1 n.1) (sndO lo C h.1.2 n.2.1) (sndO hi C h.2 n.2.2)) fun σ H Qv ⟨r, h, M, rl, re, k⟩ => ⟨r, h, M, rl, re, one k fun d v h1 M1 H1 e1 r1 b1 k1 =>
        ⟨r, h1, M1, r1, re.ext C.gk rl e1, one k1 fun e u h2 M2 H2 e2 r2 b2 k2 => ⟨r, h2, M2, r2, (re.ext C.gk rl e1).ext C.gk r1 e2, one k2 fun f w h3 M3 H3 e3 r3 b3 k3 => ?_⟩⟩⟩
      cases b2; cases b3
      cases q : on1 (slE · e f) h3 d with
      | none => rw [q] at k3; exact k3.elim
      | some z => rw [q] at k3; exact ⟨d, h3, M3, z, r3, (b1.ext C.gk r1 e2).ext C.gk r2 e3, q, k3⟩
    · cases h
end Pf

set_option Elab.async false
set_option linter.all false
set_option maxRecDepth 100000
/-! ## Arguments, calls, new things -/
namespace Pf
open PySem L2
inductive RBs (G : Gx) (M : Mp) (H : Hp) : List D → List V → Prop
  | nil : RBs G M H [] []
  | cons {d : D} {v : V} {l : List D} {xs : List V} : RB G M H d v → RBs G M H l xs → RBs G M H (d :: l) (v :: xs)
/-! ### arguments -/
def semA : List Xp → Rho → Hh → Res (List D)
  | [], _, h => .ok [] h
  | x :: xs, r, h => (x.sem r h).bind fun d h1 => (semA xs r h1).bind fun ds h2 => .ok (d :: ds) h2
def okA : List Xp → Ck → List Expr → Bool
  | [], _, es => es.isEmpty
  | x :: xs, ck, es => match es with
    | e :: r => x.ok ck e && okA xs ck r
    | [] => false
def needA : List Xp → Tb → Prop
  | [], _ => True
  | x :: xs, t => x.need t ∧ needA xs t
def semB : List Xo → Rho → Hh → Res (List D)
  | [], _, h => .ok [] h
  | x :: xs, r, h => (x.sem r h).bind fun d h1 => (semB xs r h1).bind fun ds h2 => .ok (d :: ds) h2
def okB : List Xo → Ck → List Expr → Bool
  | [], _, es => es.isEmpty
  | x :: xs, ck, es => match es with
    | e :: r => x.ok ck e && okB xs ck r
    | [] => false
def needB : List Xo → Tb → Prop
  | [], _ => True
  | x :: xs, t => x.need t ∧ needB xs t
theorem star_cons {a : Expr} {es : List Expr} (h : notStar a = true) (env : Env) : starEach (a :: es) env = (false, eval a env) :: starEach es env := by
  cases a <;> first | rfl | (simp [notStar] at h)
theorem okA_star : ∀ {xs : List Xp} {ck : Ck} {es : List Expr}, okA xs ck es = true → es.all notStar = true
  | [], _, es, h => by
    cases es with
    | nil => rfl
    | cons a b => simp [okA] at h
  | x :: xs, ck, es, h => by
    cases es with
    | nil => rfl
    | cons a b =>
      simp only [okA, Bool.and_eq_true] at h
      simp only [List.all_cons, Bool.and_eq_true]
      exact ⟨x.star _ _ h.1, okA_star h.2⟩
theorem okB_star : ∀ {xs : List Xo} {ck : Ck} {es : List Expr}, okB xs ck es = true → es.all notStar = true
  | [], _, es, h => by
    cases es with
    | nil => rfl
    | cons a b => simp [okB] at h
  | x :: xs, ck, es, h => by
    cases es with
    | nil => rfl
    | cons a b =>
      simp only [okB, Bool.and_eq_true] at h
      simp only [List.all_cons, Bool.and_eq_true]
      exact ⟨x.star _ _ h.1, okB_star h.2⟩
theorem sndA : ∀ (xs : List Xp) {X : Cx} {G : Gx} {ck : Ck} {k : Nat} {Wx : WX} {es : List Expr}, Cok X G ck k Wx → okA xs ck es = true → needA xs (tbOf X G k) → PA X es (tG (RVs G) G Wx (semA xs))
  | [], X, G, ck, k, Wx, es, C, h, n => by
    cases es with
    | cons a b => simp [okA] at h
    | nil => exact PA.imp pa_nil fun σ H Qv ⟨r, h, M, rl, re, k⟩ => k.here rl .nil
  | x :: xs, X, G, ck, k, Wx, es, C, h, n => by
    cases es with
    | nil => simp [okA] at h
    | cons a b =>
      simp only [okA, Bool.and_eq_true] at h
      exact PA.imp (pa_cons (x.snd C h.1 n.1) (sndA xs C h.2 n.2) (star_cons (x.star _ _ h.1) _)) fun σ H Qv ⟨r, h, M, rl, re, k⟩ => ⟨r, h, M, rl, re, one k fun d v h1 M1 H1 e1 r1 b1 k1 =>
        ⟨r, h1, M1, r1, re.ext C.gk rl e1, one k1 fun e u h2 M2 H2 e2 r2 b2 k2 => k2.here r2 (.cons (b1.ext C.gk r1 e2) b2)⟩⟩
theorem sndB : ∀ (xs : List Xo) {X : Cx} {G : Gx} {ck : Ck} {k : Nat} {Wx : WX} {es : List Expr}, Cok X G ck k Wx → okB xs ck es = true → needB xs (tbOf X G k) → PA X es (tG (RBs G) G Wx (semB xs))
  | [], X, G, ck, k, Wx, es, C, h, n => by
    cases es with
    | cons a b => simp [okB] at h
    | nil => exact PA.imp pa_nil fun σ H Qv ⟨r, h, M, rl, re, k⟩ => k.here rl .nil
  | x :: xs, X, G, ck, k, Wx, es, C, h, n => by
    cases es with
    | nil => simp [okB] at h
    | cons a b =>
      simp only [okB, Bool.and_eq_true] at h
      exact PA.imp (pa_cons (x.snd C h.1 n.1) (sndB xs C h.2 n.2) (star_cons (x.star _ _ h.1) _)) fun σ H Qv ⟨r, h, M, rl, re, k⟩ => ⟨r, h, M, rl, re, one k fun d v h1 M1 H1 e1 r1 b1 k1 =>
        ⟨r, h1, M1, r1, re.ext C.gk rl e1, one k1 fun e u h2 M2 H2 e2 r2 b2 k2 => k2.here r2 (.cons (b1.ext C.gk r1 e2) b2)⟩⟩
/-- a tuple -/
def Xp.tup (xs : List Xp) : Xp where
  sem r h := (semA xs r h).bind fun ds h1 => if ds.length ≤ line then .ok (.tup ds) h1 else .no
  ok ck a := match a with
    | .Tuple es _ _ => okA xs ck es
    | _ => false
  need := needA xs
  star _ a h := by cases a <;> first | rfl | (simp at h)
  snd {X G ck k Wx a} C h n := by
    split at h
    · refine PE.imp (pe_tup (sndA xs C h n)) fun σ H Qv ⟨r, h, M, rl, re, k⟩ => ⟨r, h, M, rl, re, one k fun d v h1 M1 H1 e1 r1 b1 k1 => ?_⟩
      split at k1
      · rename_i hl
        exact ⟨by rw [← b1.length, ← line_eq]; exact hl, fun p hp => KP.newTup C.gk k1 r1 b1 p hp⟩
      · exact k1.elim
    · cases h

/-! ### new things -/
def RN (Hs : Hp) (G : Gx) (M : Mp) (H : Hp) (d : D) (v : V) : Prop := ∃ a, v = .ref a ∧ RO G M H a d ∧ a ∉ M.bs ∧ ¬ M.F a ∧ Hs a = none
def tN (G : Gx) (Wx : WX) (sem : Rho → Hh → Res D) : TE := fun σ H Qv => ∃ r h M, RL G h M H ∧ RE G M H r σ ∧ KG (RN H G) G Wx σ M H Qv (sem r h)
structure Xn where
  sem : Rho → Hh → Res D
  ok : Ck → Expr → Bool
  need : Tb → Prop
  star : ∀ ck a, ok ck a = true → notStar a = true
  snd : ∀ {X : Cx} {G : Gx} {ck : Ck} {k : Nat} {Wx : WX} {a : Expr}, Cok X G ck k Wx → ok ck a = true → need (tbOf X G k) → PE X a (tN G Wx sem)
section
variable {G : Gx} {Wx : WX} {σ : St} {h : Hh} {M M' : Mp} {H H' : Hp} {Qv : VK} {d : D} {v : V} {p : Addr}
theorem Ext.adF (e : Ext M H M' H') (hp : H p = none) : Ext M H (M'.fr p) H' := ⟨e.keep, e.trk, fun b h => .inl (e.fz b h), e.pre, fun b z => by
  rcases z with z | z
  · exact e.newF b z
  · subst z; exact .inr (.inr (.inl hp))⟩
theorem Ext.adB (e : Ext M H M' H') (hp : H p = none) : Ext M H (M'.pu p) H' := ⟨e.keep, e.trk, e.fz, by
  obtain ⟨l, h1, h2⟩ := e.pre
  refine ⟨l ++ [p], by show M'.bs ++ [p] = _; rw [h1, List.append_assoc], fun b hb => ?_⟩
  rcases List.mem_append.mp hb with z | z
  · exact h2 b z
  · simp at z; subst z; exact hp, e.newF⟩
theorem Ext.loose {o : HO} (hp : H p = none) : Ext M H M (upd H p o) where
  keep := fun b u e _ _ => by rw [upd_ne (ne_of_none e hp)]; exact e
  trk := fun b e => by
    by_cases z : b = p
    · subst z; exact hp
    · rw [upd_ne z] at e; exact e
  fz := fun b e => e
  pre := ⟨[], by simp, by simp⟩
  newF := fun b e => .inl e
/-- the thing, written no more -/
theorem RO.fz (gk : Gk G) (ro : RO G M H p d) : RV G (M.fr p) H d (.ref p) := by
  have ro' : RO G (M.fr p) H p d := RO.keep gk (M := M) (M' := M.fr p) ⟨fun a z => ⟨Or.inl z, fun _ w => w⟩, fun _ _ w => w⟩ (fun _ w => w) ro
  have hF : (M.fr p).F p := .inr rfl
  cases ro with
  | lst => exact .lst hF ro'
  | dct => exact .dct hF ro'
  | set => exact .set hF ro'
  | ins => exact .ins hF ro'
  | sl0 => exact .ins hF ro'
  | sl1 => exact .ins hF ro'
theorem kn_fz (gk : Gk G) {m : Res D} (k : KG (RV G) G Wx σ M H Qv m) : KG (RN H G) G Wx σ M H Qv m := by
  cases m with
  | no => exact k
  | exc c fs h' => exact k
  | ok d h' =>
    rintro v M' H' e rl ⟨a, rfl, ro, n, nf, hn⟩
    obtain ⟨u, q, y⟩ := ro.some
    exact k _ _ _ (e.adF hn) (rl.adoptF gk n q y) (ro.fz gk)
theorem kn_hp (gk : Gk G) {m : Res D} (k : KG (RV G) G Wx σ M H Qv (m.bind fun d h1 => .ok (.ref h1.length) (h1 ++ [d]))) : KG (RN H G) G Wx σ M H Qv m := by
  cases m with
  | no => exact k
  | exc c fs h' => exact k
  | ok d h' =>
    rintro v M' H' e rl ⟨a, rfl, ro, n, nf, hn⟩
    refine k _ (M'.pu a) _ (e.adB hn) (rl.adopt gk n nf ro) (.ref ?_)
    show (M'.bs ++ [a])[h'.length]? = _
    rw [rl.len]; simp
end
/-- a new thing that is written no more -/
def Xp.fz (x : Xn) : Xp where
  sem := x.sem
  ok := x.ok
  need := x.need
  star := x.star
  snd C h n := PE.imp (x.snd C h n) fun σ H Qv ⟨r, h, M, rl, re, k⟩ => ⟨r, h, M, rl, re, kn_fz C.gk k⟩
/-- a new thing of the heap -/
def Xp.hp (x : Xn) : Xp where
  sem r h := (x.sem r h).bind fun d h1 => .ok (.ref h1.length) (h1 ++ [d])
  ok := x.ok
  need := x.need
  star := x.star
  snd C h n := PE.imp (x.snd C h n) fun σ H Qv ⟨r, h, M, rl, re, k⟩ => ⟨r, h, M, rl, re, kn_hp C.gk k⟩
theorem kn_list {G : Gx} {Wx : WX} {σ : St} {h : Hh} {M M1 : Mp} {H H1 : Hp} {Qv : VK} {ds : List D} {vs : List V} (gk : Gk G) (e1 : Ext M H M1 H1) (r1 : RL G h M1 H1) (rv : RVs G M1 H1 ds vs) (k1 : KG (RN H G) G Wx σ M1 H1 Qv (.ok (.lst ds) h)) (p : Addr) (hp : H1 p = none) : Qv (.ref p) (upd H1 p (.lst vs)) :=
  k1 _ M1 _ (Ext.loose hp) (r1.poke gk (r1.free hp) (r1.freeF hp)) ⟨p, rfl, .lst upd_same (rv.keep gk (Keep.new hp)), r1.free hp, r1.freeF hp, e1.trk _ hp⟩
/-- a list display -/
def Xn.lst (xs : List Xp) : Xn where
  sem r h := (semA xs r h).bind fun ds h1 => if ds.length ≤ line then .ok (.lst ds) h1 else .no
  ok ck a := match a with
    | .List es _ => okA xs ck es
    | _ => false
  need := needA xs
  star _ a h := by cases a <;> first | rfl | (simp at h)
  snd {X G ck k Wx a} C h n := by
    split at h
    · refine PE.imp (pe_lst (sndA xs C h n)) fun σ H Qv ⟨r, h, M, rl, re, k⟩ => ⟨r, h, M, rl, re, one k fun d v h1 M1 H1 e1 r1 b1 k1 => ?_⟩
      split at k1
      · rename_i hl
        exact ⟨by rw [← b1.length, ← line_eq]; exact hl, fun p hp => kn_list C.gk e1 r1 b1 k1 p hp⟩
      · exact k1.elim
    · cases h

/-! ### a def is called -/
theorem stars_of : ∀ {es : List Expr}, es.all notStar = true → ∀ {p : Pos} {env : Env}, (backTo p (starEach es env)).any (·.1) = false
  | [], _, _, _ => rfl
  | a :: es, h, p, env => by
    simp only [List.all_cons, Bool.and_eq_true] at h
    rw [star_cons h.1]
    have ih := stars_of h.2 (p := p) (env := env)
    unfold backTo at ih ⊢
    simpa using ih
section
variable {X : Cx} {G : Gx} {ck : Ck} {k : Nat} {Wx : WX} {σ : St} {H : Hp} {M : Mp} {h : Hh}
theorem run_L (C : Cok X G ck k Wx) {f : Addr} {fd : FuncData} {ps : List Str} {F : Fsem} {pins : List (Addr × Obj)} {s : Shared} {us : List Value} {vs : List V} {ds : List D} {Qv : VK} (Fo : FnOk X.prog X.w X.K X.mg X.base (CX X.prog X.w) k f fd ps (lift G F)) (hb : Binds X.K fd ps [])
    (I : Inv X pins σ H s) (r : Vals vs us) (rl : RL G h M H) (rd : RVs G M H ds vs) (kq : KG (RV G) G Wx σ M H Qv (F ds h)) :
    wpAny (model X.prog X.w) X.A (call (.ref f) us) (EP X pins σ Qv) X.xe s := by
  have hp : lift G F vs H Qv (fun cls dx H' => Wx cls dx σ H') := ⟨ds, h, M, rl, rd, by
    cases q : F ds h with
    | no => rw [q] at kq; exact kq
    | ok d h' => rw [q] at kq; exact kq
    | exc c fs h' => rw [q] at kq; exact kq⟩
  have hb' := hb s us I.kIn (by rw [List.append_nil, ← r.length]; exact Fo.len _ _ _ _ hp)
  rw [List.append_nil] at hb'
  refine wpAny_call (codeAny_mono (Fo.run X.A X.stack s H ⟨us, []⟩ us vs Qv _ (C.room.mono (by omega)) I.env0 hb' r hp) fun r s' hq => ?_)
  cases r with
  | error e => exact C.tk e s' (XE.of_call I (fun cls d H' h => h) hq)
  | ok fl =>
    cases fl with
    | ret u => exact I.after hq
    | next => exact False.elim hq
    | brk => exact False.elim hq
    | cont => exact False.elim hq
end
def callB (f : Str) (xs : List Xp) (ck : Ck) (a : Expr) : Bool := match a with
  | .Call (.Name x _) es [] _ => x == f && globB ck x && okA xs ck es
  | _ => false
theorem callB_some {f : Str} {xs : List Xp} {ck : Ck} {a : Expr} (h : callB f xs ck a = true) : ∃ p es q, a = .Call (.Name f p) es [] q ∧ globB ck f = true ∧ okA xs ck es = true := by
  unfold callB at h
  split at h
  · simp only [Bool.and_eq_true, beq_iff_eq] at h
    obtain ⟨⟨rfl, h1⟩, h2⟩ := h
    exact ⟨_, _, _, rfl, h1, h2⟩
  · cases h
/-- a call of a def of the module; F is what it computes -/
def Xp.call (f : Str) (F : Fsem) (xs : List Xp) : Xp where
  sem r h := (semA xs r h).bind fun ds h1 => F ds h1
  ok := callB f xs
  need t := FnL t f F ∧ needA xs t
  star _ a h := by obtain ⟨p, es, q, rfl, _⟩ := callB_some h; rfl
  snd {X G ck k Wx a} C h n := by
    obtain ⟨p, es, q, rfl, hg, ho⟩ := callB_some h
    obtain ⟨g1, g2, g3⟩ := gl_of C hg
    obtain ⟨⟨af, fd, ps, hm, kp, hb, Fo⟩, n2⟩ := n
    dsimp only at hm kp hb Fo
    rw [C.hK, C.hmg] at Fo
    rw [C.hK] at hb kp
    rw [C.hmg] at hm
    have hA := sndA xs C ho n2
    have hst := okA_star ho
    refine ⟨fun pins s σ H Qv I ⟨r, hh, M, rl, re, k⟩ => ?_⟩
    refine wpAny_Call_Name_kw (ld_glob I g1 hm ?_ g2)
    have fin : ∀ {H1 : Hp} {s1 : Shared} {vs : List V} {us : List Value}, Inv X pins σ H1 s1 → Vals vs us → (∃ ds h1 M1, Ext M H M1 H1 ∧ RL G h1 M1 H1 ∧ RVs G M1 H1 ds vs ∧ KG (RV G) G Wx σ M1 H1 Qv (F ds h1)) → wpAny (model X.prog X.w) X.A (PySem.call (.ref af) us) (EP X pins σ Qv) X.xe s1 := by
      intro H1 s1 vs us I1 rv ⟨ds, h1, M1, e1, r1, rd, w1⟩
      exact run_L C Fo hb I1 rv r1 rd w1
    cases es with
    | nil =>
      refine PySem.W.callWith_K0 I.kIn kp ?_
      cases xs with
      | nil => exact fin I .nil ⟨[], hh, M, Ext.refl, rl, .nil, k⟩
      | cons a b => simp [okA] at ho
    | cons e1 es =>
      simp only [List.all_cons, Bool.and_eq_true] at hst
      exact PySem.W.callWith_K (h₀ := X.base) I.ok.mod.kin kp (thn (hA.run q pins s σ H (fun vs H1 => ∃ ds h1 M1, Ext M H M1 H1 ∧ RL G h1 M1 H1 ∧ RVs G M1 H1 ds vs ∧ KG (RV G) G Wx σ M1 H1 Qv (F ds h1)) I ⟨r, hh, M, rl, re, one k fun d v h1 M1 H1 e1 r1 b1 k1 => ⟨d, h1, M1, e1, r1, b1, k1⟩⟩) fun us s1 ⟨vs, H1, I1, r1, q⟩ => ⟨I1.kIn, fin I1 r1 q⟩) (star_cons hst.1 _) (stars_of hst.2)
end Pf

set_option Elab.async false
set_option linter.all false
set_option maxRecDepth 100000
/-! ## Built-in functions -/
namespace Pf
open PySem L2
theorem bt_len : bootBuiltins "len" = some (.builtin "len") := by decide +kernel
theorem bt_all : bootBuiltins "all" = some (.builtin "all") := by decide +kernel
theorem bt_max : bootBuiltins "max" = some (.builtin "max") := by decide +kernel
theorem bt_min : bootBuiltins "min" = some (.builtin "min") := by decide +kernel
theorem bt_sorted : bootBuiltins "sorted" = some (.builtin "sorted") := by decide +kernel
theorem bt_isi : bootBuiltins "isinstance" = some (.builtin "isinstance") := by decide +kernel
theorem bt_int : bootBuiltins "int" = some (.type "int") := by decide +kernel
theorem bt_bool : bootBuiltins "bool" = some (.type "bool") := by decide +kernel
theorem bt_str : bootBuiltins "str" = some (.type "str") := by decide +kernel
theorem bt_tuple : bootBuiltins "tuple" = some (.type "tuple") := by decide +kernel
theorem bt_list : bootBuiltins "list" = some (.type "list") := by decide +kernel
theorem bt_range : bootBuiltins "range" = some (.type "range") := by decide +kernel
def vws (h : Hh) : List D → Option (List D)
  | [] => some []
  | d :: l => (vw h d).bind fun x => (vws h l).bind fun xs => some (x :: xs)
inductive Vds (G : Gx) (M : Mp) (H : Hp) : List D → List V → Prop
  | nil : Vds G M H [] []
  | cons {d : D} {v : V} {l : List D} {xs : List V} : Vd G M H d v → Vds G M H l xs → Vds G M H (d :: l) (v :: xs)
theorem vws_ok {G : Gx} {h : Hh} {M : Mp} {H : Hp} (rl : RL G h M H) : ∀ {ds es : List D} {vs : List V}, RBs G M H ds vs → vws h ds = some es → Vds G M H es vs
  | _, _, _, .nil, e => by cases e; exact .nil
  | _, _, _, .cons b t, e => by
    simp only [vws] at e
    obtain ⟨x, e1, e⟩ := Option.bind_eq_some_iff.mp e
    obtain ⟨xs, e2, e⟩ := Option.bind_eq_some_iff.mp e
    cases e
    exact .cons (vw_ok rl b e1) (vws_ok rl t e2)
section
variable {G : Gx} {M : Mp} {H : Hp}
theorem Vds.one {d : D} {vs : List V} (x : Vds G M H [d] vs) : ∃ v, vs = [v] ∧ Vd G M H d v := by
  cases x with
  | cons h t => cases t; exact ⟨_, rfl, h⟩
theorem Vds.two {d e : D} {vs : List V} (x : Vds G M H [d, e] vs) : ∃ v u, vs = [v, u] ∧ Vd G M H d v ∧ Vd G M H e u := by
  cases x with
  | cons h t =>
    obtain ⟨u, rfl, r⟩ := t.one
    exact ⟨_, _, rfl, h, r⟩
end
def onL {α : Type} (f : List D → Option α) (h : Hh) (ds : List D) : Option α := (vws h ds).bind f
/-- a call's reading at data: a pure answer, a new thing -/
def rC (G : Gx) (f : List D → Option D) : List V → Hp → VK → Prop := fun vs H Qv => ∃ ds h M z, RL G h M H ∧ RBs G M H ds vs ∧ onL f h ds = some z ∧ KP G h M H z Qv
def rCN (G : Gx) (f : List D → Option D) : List V → Hp → VK → Prop := fun vs H Qv => ∃ ds h M z, RL G h M H ∧ RBs G M H ds vs ∧ onL f h ds = some z ∧ ∀ (xs : List D) (us : List V) (p : Addr), z = .lst xs → RVs G M H xs us → H p = none → Qv (.ref p) (upd H p (.lst us))
inductive Bi where
  | len | int | all | tuple | max2 | min2
  deriving DecidableEq
def blsOf : List D → Option (List Bool)
  | [] => some []
  | .bl b :: r => (blsOf r).map (b :: ·)
  | _ :: _ => none
theorem blsOf_map : ∀ {l : List D} {ns : List Bool}, blsOf l = some ns → l = ns.map D.bl
  | [], ns, h => by unfold blsOf at h; cases h; rfl
  | d :: l, ns, h => by
    cases d <;> unfold blsOf at h <;> try cases h
    cases e : blsOf l with
    | none => rw [e] at h; cases h
    | some m => rw [e] at h; cases h; rw [blsOf_map e]; rfl
theorem RVs.bls {G : Gx} {M : Mp} {H : Hp} : ∀ {ns : List Bool} {xs : List V}, RVs G M H (ns.map D.bl) xs → xs = ns.map V.bl
  | [], _, h => by cases h; rfl
  | n :: ns, _, h => by
    cases h with
    | cons h t =>
      cases h
      rw [RVs.bls t]; rfl
def lenE : D → Option D
  | .str x => if x.length ≤ line then some (.int x.length) else none
  | d => (items d).map fun l => .int l.length
def biE (f : Bi) (ds : List D) : Option D :=
  match f, ds with
  | .len, [d] => lenE d
  | .int, [.int i] => some (.int i)
  | .int, [.bl b] => some (.int (if b then 1 else 0))
  | .max2, [.int i, .int j] => some (.int (if j > i then j else i))
  | .min2, [.int i, .int j] => some (.int (if j < i then j else i))
  | .all, [.lst l] => (blsOf l).map fun bs => .bl (bs.all id)
  | .tuple, [d] => (items d).map D.tup
  | _, _ => none
def biName : Bi → Str
  | .len => "len" | .int => "int" | .all => "all" | .tuple => "tuple" | .max2 => "max" | .min2 => "min"
def biVal : Bi → Value
  | .len => .builtin "len" | .int => .type "int" | .all => .builtin "all" | .tuple => .type "tuple" | .max2 => .builtin "max" | .min2 => .builtin "min"
theorem bi_boot (f : Bi) : bootBuiltins (biName f) = some (biVal f) := by
  cases f
  · exact bt_len
  · exact bt_int
  · exact bt_all
  · exact bt_tuple
  · exact bt_max
  · exact bt_min
section
variable {X : Cx} {G : Gx}
theorem bi_D (gk : Gk G) (hK : G.K = X.K) (hc : X.calm = true) (f : Bi) : CallR X (biVal f) (rC G (biE f)) := by
  intro pins s σ H vs us Qv I rv ⟨ds, h, M, z, rl, rd, ez, k⟩
  obtain ⟨es, e1, w⟩ := Option.bind_eq_some_iff.mp ez
  have rd := vws_ok rl rd e1
  unfold biE at w
  split at w
  · obtain ⟨v, rfl, r1⟩ := rd.one
    unfold lenE at w
    split at w
    · split at w
      · rename_i hl
        cases w
        cases r1.rv trivial
        exact call_len_str pins s σ H _ us Qv I rv ⟨_, rfl, by rw [tS_len, ← line_eq]; exact hl, by rw [tS_len]; exact k.here rl (.int _)⟩
      · cases w
    · obtain ⟨l, e2, w⟩ := Option.map_eq_some_iff.mp w
      subst w
      obtain ⟨p, ws, rfl, r2, ⟨q1, _⟩ | ⟨q1, _⟩⟩ := r1.seq hK e2
      · exact call_len_seq pins s σ H _ us Qv I rv ⟨_, _, rfl, .inl q1, by rw [← r2.length]; exact k.here rl (.int _)⟩
      · exact call_len_seq pins s σ H _ us Qv I rv ⟨_, _, rfl, .inr q1, by rw [← r2.length]; exact k.here rl (.int _)⟩
  · cases w
    obtain ⟨v, rfl, r1⟩ := rd.one
    cases r1.rv trivial
    exact call_int1 pins s σ H _ us Qv I rv (.inl ⟨_, rfl, k.here rl (.int _)⟩)
  · cases w
    obtain ⟨v, rfl, r1⟩ := rd.one
    cases r1.rv trivial
    exact call_int1 pins s σ H _ us Qv I rv (.inr ⟨_, rfl, k.here rl (.int _)⟩)
  · cases w
    obtain ⟨v, u, rfl, r1, r2⟩ := rd.two
    cases r1.rv trivial; cases r2.rv trivial
    exact call_max2 hc pins s σ H _ us Qv I rv ⟨_, _, rfl, k.here rl (.int _)⟩
  · cases w
    obtain ⟨v, u, rfl, r1, r2⟩ := rd.two
    cases r1.rv trivial; cases r2.rv trivial
    exact call_min2 hc pins s σ H _ us Qv I rv ⟨_, _, rfl, k.here rl (.int _)⟩
  · obtain ⟨bs, e2, w⟩ := Option.map_eq_some_iff.mp w
    subst w
    obtain ⟨v, rfl, r1⟩ := rd.one
    obtain ⟨p, ws, rfl, h1, r2⟩ := r1.lst
    have eb := blsOf_map e2
    subst eb
    have e2 := RVs.bls r2
    subst e2
    exact cr_all hc pins s σ H _ us Qv I rv ⟨_, _, rfl, SqL.of h1, k.here rl (.bl _)⟩
  · obtain ⟨l, e2, w⟩ := Option.map_eq_some_iff.mp w
    subst w
    obtain ⟨v, rfl, r1⟩ := rd.one
    have r1' := r1
    obtain ⟨p, ws, rfl, r2, ⟨q1, _⟩ | ⟨q1, q2⟩⟩ := r1.seq hK e2
    · exact call_tuple_of pins s σ H _ us Qv I rv ⟨_, _, rfl, .inl ⟨q1, fun p hp => k.newTup gk rl r2 p hp⟩⟩
    · subst q2
      exact call_tuple_of pins s σ H _ us Qv I rv ⟨_, _, rfl, .inr ⟨q1, k.here rl (r1'.rv trivial)⟩⟩
  · cases w

/-! list(..), sorted(..) -/
inductive Bn where
  | list | sorted
  deriving DecidableEq
def sortB : PyData → Bool
  | .tuple (_ :: _) => true
  | _ => false
def sortC : PyData → Bool
  | .none => false
  | .tuple _ => false
  | _ => true
/-- may these be sorted -/
def sortOk (l : List D) : Bool := l.all (dep 58) && l.all (fun a => l.all fun b => PySem.W.alike (pd a) (pd b)) && (l.all (fun a => sortB (pd a)) || l.all (fun a => sortC (pd a)))
def sortD (l : List D) : List D := l.mergeSort (PySem.W.dataLe false pd)
def itemsL : D → Option (List D)
  | .lst l => some l
  | .lsc l => some l
  | _ => none
theorem itemsL_some {d : D} {l : List D} (h : itemsL d = some l) : items d = some l ∧ d ≠ .tup l := by
  cases d <;> simp [itemsL] at h <;> subst h <;> exact ⟨rfl, fun z => nomatch z⟩
def bnE (f : Bn) (ds : List D) : Option D :=
  match f, ds with
  | .list, [d] => (items d).map D.lst
  | .sorted, [d] => (itemsL d).bind fun l => if sortOk l && decide (l.length ≤ line) then some (.lst (sortD l)) else none
  | _, _ => none
def bnName : Bn → Str
  | .list => "list" | .sorted => "sorted"
def bnVal : Bn → Value
  | .list => .type "list" | .sorted => .builtin "sorted"
theorem bn_boot (f : Bn) : bootBuiltins (bnName f) = some (bnVal f) := by
  cases f
  · exact bt_list
  · exact bt_sorted
theorem each_of {M : Mp} {H : Hp} {pins : List (Addr × Obj)} {s : Shared} {σ : St} (hK : G.K = X.K) (I : Inv X pins σ H s) : ∀ {l : List D} {vs : List V} {us : List Value}, (∀ d ∈ l, dep 58 d = true) → RVs G M H l vs → Vals vs us →
    PySem.W.EachIs (fun v c => ∃ x, RelV x v ∧ RV G M H c x) us l ∧ PySem.W.EachIs (fun v c => ∃ as, Reads s.heap v (pd c) as) us l
  | [], _, _, _, rv, ru => by cases rv; cases ru; exact ⟨.nil, .nil⟩
  | c :: cs, _, _, hd, rv, ru => by
    cases rv with
    | cons r1 r2 =>
      cases ru with
      | cons u1 u2 =>
        obtain ⟨h1, h2⟩ := each_of hK I (fun d q => hd d (List.mem_cons_of_mem _ q)) r2 u2
        exact ⟨.cons ⟨_, u1, r1⟩ h1, .cons (Dp.reads I _ _ _ (r1.dp hK (hd c List.mem_cons_self)) u1) h2⟩
theorem each_back {M : Mp} {H : Hp} : ∀ {l : List D} {us : List Value}, PySem.W.EachIs (fun v c => ∃ x, RelV x v ∧ RV G M H c x) us l → ∃ vs, Vals vs us ∧ RVs G M H l vs
  | _, _, .nil => ⟨[], .nil, .nil⟩
  | _, _, .cons h t => by
    obtain ⟨x, r1, r2⟩ := h
    obtain ⟨vs, h1, h2⟩ := each_back t
    exact ⟨x :: vs, .cons r1 h1, .cons r2 h2⟩
theorem sortOk_some {l : List D} (h : sortOk l = true) : (∀ d ∈ l, dep 58 d = true) ∧ PySem.W.AllAlike (l.map pd) ∧ PySem.W.Sortable (l.map pd) := by
  unfold sortOk at h
  simp only [Bool.and_eq_true, Bool.or_eq_true, List.all_eq_true] at h
  obtain ⟨⟨h1, h2⟩, h3⟩ := h
  refine ⟨h1, fun d hd d' hd' => ?_, ?_⟩
  · obtain ⟨a, ha, rfl⟩ := List.mem_map.mp hd
    obtain ⟨b, hb, rfl⟩ := List.mem_map.mp hd'
    exact h2 a ha b hb
  · rcases h3 with h3 | h3
    · refine .inl fun d hd => ?_
      obtain ⟨a, ha, rfl⟩ := List.mem_map.mp hd
      have := h3 a ha
      unfold sortB at this
      split at this
      · rename_i x r e; exact ⟨x, r, e⟩
      · cases this
    · refine .inr fun d hd => ?_
      obtain ⟨a, ha, rfl⟩ := List.mem_map.mp hd
      have := h3 a ha
      refine ⟨fun z => ?_, fun xs z => ?_⟩ <;> rw [z] at this <;> simp [sortC] at this
theorem bn_D (hK : G.K = X.K) {kk : Nat} (hr : Room kk X.A) (f : Bn) : CallR X (bnVal f) (rCN G (bnE f)) := by
  intro pins s σ H vs us Qv I rv ⟨ds, h, M, z, rl, rd, ez, k⟩
  obtain ⟨es, e1, w⟩ := Option.bind_eq_some_iff.mp ez
  have rd := vws_ok rl rd e1
  unfold bnE at w
  split at w
  · obtain ⟨l, e2, w⟩ := Option.map_eq_some_iff.mp w
    obtain ⟨v, rfl, r1⟩ := rd.one
    obtain ⟨p, ws, rfl, r2, ⟨q1, _⟩ | ⟨q1, _⟩⟩ := r1.seq hK e2
    · exact call_list_of pins s σ H _ us Qv I rv ⟨_, _, rfl, .inl q1, fun p hp => k _ _ p w.symm r2 hp⟩
    · exact call_list_of pins s σ H _ us Qv I rv ⟨_, _, rfl, .inr q1, fun p hp => k _ _ p w.symm r2 hp⟩
  · obtain ⟨l, e2, w⟩ := Option.bind_eq_some_iff.mp w
    split at w
    · rename_i hs
      simp only [Bool.and_eq_true, decide_eq_true_eq] at hs
      cases w
      obtain ⟨v, rfl, r1⟩ := rd.one
      obtain ⟨s1, s2, s3⟩ := sortOk_some hs.1
      obtain ⟨e2, e3⟩ := itemsL_some e2
      obtain ⟨p, ws, rfl, r2, ⟨q1, _⟩ | ⟨q1, q2⟩⟩ := r1.seq hK e2
      · obtain ⟨its, ri, pl, hz⟩ := I.list q1
        rw [Vals.ref1 rv]
        obtain ⟨e1, e2⟩ := each_of hK I s1 r2 ri
        refine PySem.W.sorted_data pl.isList e1 e2 s2 s3 (by rw [← line_eq]; exact hs.2) (fun c hc => by have h3 := (canLay_dep 58 c (s1 c hc)).2; have h4 := hr.un; omega) fun out ho eo => ?_
        obtain ⟨ep, he'⟩ := PyProof.Rows.sortedAll_at s.heap its out.toArray
        obtain ⟨ys, y1, y2⟩ := each_back eo
        have hlen : ys.length ≤ sizeLine := by rw [← y2.length, List.length_mergeSort, ← line_eq]; exact hs.2
        exact ⟨.ref _, upd H (s.heap.objs.size + 1) (.lst ys), I.laid (t' := s.toks) (fun _ _ => PyProof.Rows.sortedAll_old) (Nat.le_succ _) ⟨hlen, out, ep, y1, he'⟩, rfl, k _ _ _ rfl y2 (I.hok.fresh (Nat.le_succ _))⟩
      · exact absurd q2 e3
    · cases w
  · cases w
end

def nameB (f : Str) (ob : Ck → List Expr → Bool) (ck : Ck) (a : Expr) : Bool := match a with
  | .Call (.Name x _) es [] _ => x == f && globB ck x && ob ck es && !es.isEmpty
  | _ => false
theorem nameB_some {f : Str} {ob : Ck → List Expr → Bool} {ck : Ck} {a : Expr} (h : nameB f ob ck a = true) : ∃ p e es q, a = .Call (.Name f p) (e :: es) [] q ∧ globB ck f = true ∧ ob ck (e :: es) = true := by
  unfold nameB at h
  split at h
  · simp only [Bool.and_eq_true, beq_iff_eq, Bool.not_eq_true'] at h
    obtain ⟨⟨⟨rfl, h1⟩, h2⟩, h3⟩ := h
    rename_i es _
    cases es with
    | nil => simp at h3
    | cons e es => exact ⟨_, _, _, _, rfl, h1, h2⟩
  · cases h
/-- a built-in function or class by its name, with operands -/
theorem pe_bi {X : Cx} {G : Gx} {ck : Ck} {k : Nat} {Wx : WX} (C : Cok X G ck k Wx) {f : Str} {u : Value} {rd : List V → Hp → VK → Prop} {xs : List Xo} {p q : Pos} {e : Expr} {es : List Expr} (hu : (∃ id, u = .builtin id) ∨ ∃ id, u = .type id) (hc : CallR X u rd) (hv : bootBuiltins f = some u) (hg : globB ck f = true) (hm : G.mg f = none) (ho : okB xs ck (e :: es) = true) (n : needB xs (tbOf X G k)) :
    PE X (.Call (.Name f p) (e :: es) [] q) (fun σ H Qv => tG (RBs G) G Wx (semB xs) σ H fun vs H1 => rd vs H1 Qv) := by
  obtain ⟨g1, g2, g3⟩ := gl_of C hg
  have hst := okB_star ho
  simp only [List.all_cons, Bool.and_eq_true] at hst
  rcases hu with ⟨id, rfl⟩ | ⟨id, rfl⟩
  · exact pe_callB hc g1 (by rw [← C.hmg]; exact hm) hv (sndB xs C ho n) g3 g2 (star_cons hst.1 _) (stars_of hst.2)
  · exact pe_callTy hc g1 (by rw [← C.hmg]; exact hm) hv (sndB xs C ho n) g3 g2 (star_cons hst.1 _) (stars_of hst.2)
def Xp.bi (f : Bi) (xs : List Xo) : Xp where
  sem r h := (semB xs r h).bind fun ds h1 => ofO (onL (biE f) h1 ds) h1
  ok := nameB (biName f) (okB xs)
  need t := BtL t (biName f) ∧ needB xs t
  star _ a h := by obtain ⟨p, e, es, q, rfl, _⟩ := nameB_some h; rfl
  snd {X G ck k Wx a} C h n := by
    obtain ⟨p, e, es, q, rfl, hg, ho⟩ := nameB_some h
    refine PE.imp (pe_bi C (by cases f <;> first | exact .inl ⟨_, rfl⟩ | exact .inr ⟨_, rfl⟩) (bi_D C.gk C.hK C.calm f) (bi_boot f) hg n.1 ho n.2) fun σ H Qv ⟨r, hh, M, rl, re, k⟩ => ⟨r, hh, M, rl, re, one k fun d v h1 M1 H1 e1 r1 b1 k1 => ?_⟩
    cases q : onL (biE f) h1 d with
    | none => rw [q] at k1; exact k1.elim
    | some z => rw [q] at k1; exact ⟨d, h1, M1, z, r1, b1, q, k1⟩
theorem bnE_lst {f : Bn} {ds : List D} {z : D} (h : bnE f ds = some z) : ∃ l, z = .lst l := by
  unfold bnE at h
  split at h
  · obtain ⟨l, _, w⟩ := Option.map_eq_some_iff.mp h
    exact ⟨l, w.symm⟩
  · obtain ⟨l, _, w⟩ := Option.bind_eq_some_iff.mp h
    split at w
    · cases w; exact ⟨_, rfl⟩
    · cases w
  · cases h
def Xn.bi (f : Bn) (xs : List Xo) : Xn where
  sem r h := (semB xs r h).bind fun ds h1 => ofO (onL (bnE f) h1 ds) h1
  ok := nameB (bnName f) (okB xs)
  need t := BtL t (bnName f) ∧ needB xs t
  star _ a h := by obtain ⟨p, e, es, q, rfl, _⟩ := nameB_some h; rfl
  snd {X G ck k Wx a} C h n := by
    obtain ⟨p, e, es, q, rfl, hg, ho⟩ := nameB_some h
    refine PE.imp (pe_bi C (by cases f <;> first | exact .inl ⟨_, rfl⟩ | exact .inr ⟨_, rfl⟩) (bn_D C.hK C.room f) (bn_boot f) hg n.1 ho n.2) fun σ H Qv ⟨r, hh, M, rl, re, k⟩ => ⟨r, hh, M, rl, re, one k fun d v h1 M1 H1 e1 r1 b1 k1 => ?_⟩
    cases q : onL (bnE f) h1 d with
    | none => rw [q] at k1; exact k1.elim
    | some z =>
      rw [q] at k1
      refine ⟨d, h1, M1, z, r1, b1, q, fun xs us p hz hv hp => ?_⟩
      subst hz
      exact kn_list C.gk e1 r1 hv k1 p hp

/-! ### isinstance of the plain kinds -/
inductive Kd where
  | int | bool | tuple | str
  deriving DecidableEq
def kdName : Kd → String
  | .int => "int" | .bool => "bool" | .tuple => "tuple" | .str => "str"
theorem kd_boot (c : Kd) : bootBuiltins (kdName c) = some (.type (kdName c)) := by
  cases c
  · exact bt_int
  · exact bt_bool
  · exact bt_tuple
  · exact bt_str
def tyD : D → Option String
  | .non => some "NoneType" | .bl _ => some "bool" | .int _ => some "int" | .str _ => some "str" | .tup _ => some "tuple" | .lst _ => some "list"
  | _ => none
theorem tyD_ok {X : Cx} {G : Gx} (hK : G.K = X.K) {M : Mp} {H : Hp} {d : D} {v : V} {t : String} (e : tyD d = some t) (r : Vd G M H d v) : TyX X.K H v (.type t) := by
  cases d <;> simp only [tyD, reduceCtorEq, Option.some.injEq] at e <;> subst e
  · cases r.rv trivial; exact .base .non
  · cases r.rv trivial; exact .base (.bl _)
  · cases r.rv trivial; exact .base (.int _)
  · cases r.rv trivial; exact .base (.str _)
  · cases r.rv trivial with
    | tup h r =>
      rcases h with ⟨_, h⟩ | ⟨o, its, n, h, c, _⟩
      · exact .base (.tup h)
      · exact .kTuple (by rw [← hK]; exact h) c
  · obtain ⟨p, vs, rfl, h1, r1⟩ := r.lst
    exact .base (.lst h1)
def isE (c : Kd) (d : D) : Option Bool := match c, d with
  | .int, .int _ => some true | .int, .bl _ => some true | .int, .non => some false | .int, .str _ => some false | .int, .tup _ => some false | .int, .lst _ => some false
  | .bool, .bl _ => some true | .bool, .int _ => some false | .bool, .non => some false | .bool, .str _ => some false | .bool, .tup _ => some false | .bool, .lst _ => some false
  | .tuple, .tup _ => some true | .tuple, .int _ => some false | .tuple, .bl _ => some false | .tuple, .non => some false | .tuple, .str _ => some false | .tuple, .lst _ => some false
  | .str, .str _ => some true | .str, .int _ => some false | .str, .bl _ => some false | .str, .non => some false | .str, .tup _ => some false | .str, .lst _ => some false
  | _, _ => none
theorem isE_kit {c : Kd} {d : D} {b : Bool} (h : isE c d = some b) : ∃ t, tyD d = some t ∧ kitB t (kdName c) = some b := by
  cases c <;> cases d <;> simp only [isE, reduceCtorEq, Option.some.injEq] at h <;> subst h <;> exact ⟨_, rfl, by decide +kernel⟩
def isiB (c : Kd) (x : Ck → Expr → Bool) (ck : Ck) (a : Expr) : Bool := match a with
  | .Call (.Name f _) [y, .Name t _] [] _ => f == ("isinstance" : Str) && globB ck f && x ck y && t == (kdName c : Str) && globB ck t
  | _ => false
theorem isiB_some {c : Kd} {x : Ck → Expr → Bool} {ck : Ck} {a : Expr} (h : isiB c x ck a = true) : ∃ p y q s, a = .Call (.Name "isinstance" p) [y, .Name (kdName c : Str) q] [] s ∧ globB ck "isinstance" = true ∧ x ck y = true ∧ globB ck (kdName c : Str) = true := by
  unfold isiB at h
  split at h
  · simp only [Bool.and_eq_true, beq_iff_eq] at h
    obtain ⟨⟨⟨⟨rfl, h1⟩, h2⟩, rfl⟩, h3⟩ := h
    exact ⟨_, _, _, _, rfl, h1, h2, h3⟩
  · cases h
def Xp.isi (c : Kd) (x : Xo) : Xp where
  sem r h := (x.sem r h).bind fun d h1 => ofB (on1 (isE c) h1 d) h1
  ok := isiB c x.ok
  need t := BtL t "isinstance" ∧ BtL t (kdName c : Str) ∧ x.need t
  star _ a h := by obtain ⟨p, y, q, s, rfl, _⟩ := isiB_some h; rfl
  snd {X G ck k Wx a} C h n := by
    obtain ⟨p, y, q, s, rfl, hg, hx, hgT⟩ := isiB_some h
    obtain ⟨g1, g2, g3⟩ := gl_of C hg
    obtain ⟨t1, t2, t3⟩ := gl_of C hgT
    have hst := x.star _ _ hx
    refine ⟨fun pins s σ H Qv I ⟨r, hh, M, rl, re, k⟩ => ?_⟩
    refine wpAny_Call_Name_kw (ld_blt I g1 (by rw [← C.hmg]; exact n.1) bt_isi ?_ g3 g2)
    have hb : PE X (.Name (kdName c : Str) q) (tC (.ty (kdName c))) := pe_bltn t1 (by rw [← C.hmg]; exact n.2.1) (kd_boot c) rfl t3 t2
    have hA : PA X [y, .Name (kdName c : Str) q] (tCons (tG (RB G) G Wx x.sem) (tCons (tC (.ty (kdName c))) tNil)) := pa_cons (x.snd C hx n.2.2) (pa_cons hb pa_nil) (star_cons hst _)
    refine PyProof.Rows.callWith_builtin1 (thn (hA.run _ pins s σ H (fun vs H1 => ∃ v d h1 M1, vs = [v, .ty (kdName c)] ∧ Ext M H M1 H1 ∧ RL G h1 M1 H1 ∧ RB G M1 H1 d v ∧ KG (RV G) G Wx σ M1 H1 Qv (ofB (on1 (isE c) h1 d) h1)) I ?_) fun us s1 ⟨vs, H1, I1, r1, v, d, h1, M1, ev, e1, rl1, rb, k1⟩ => ?_) (star_cons hst _) rfl
    · exact ⟨r, hh, M, rl, re, one k fun d v h1 M1 H1 e1 r1 b1 k1 => ⟨v, d, h1, M1, rfl, e1, r1, b1, k1⟩⟩
    · subst ev
      unfold ofB on1 at k1
      cases e2 : vw h1 d with
      | none => rw [e2] at k1; exact k1.elim
      | some d' =>
        rw [e2] at k1
        simp only [Option.bind_some] at k1
        cases e3 : isE c d' with
        | none => rw [e3] at k1; exact k1.elim
        | some b =>
          rw [e3] at k1
          obtain ⟨t, e4, e5⟩ := isE_kit e3
          exact call_isi pins s1 σ H1 _ us Qv I1 r1 ⟨_, _, _, _, _, rfl, .ty (kdName c), tyD_ok C.hK e4 (vw_ok rl1 rb e2), kit_ty e5, k1.here rl1 (.bl _)⟩
end Pf

set_option Elab.async false
set_option linter.all false
set_option maxRecDepth 100000
/-! ## Targets, what is walked, comprehensions -/
namespace Pf
open PySem L2
inductive Tg where
  | n (i : Nat)
  | tu (ts : List Tg)
mutual
def Tg.put : Tg → D → Rho → Option Rho
  | .n i, d, r => some (r.set i (.pl d))
  | .tu ts, d, r => match d with
    | .tup l => if l.length = ts.length then Tg.puts ts l r else none
    | _ => none
def Tg.puts : List Tg → List D → Rho → Option Rho
  | [], ds, r => match ds with
    | [] => some r
    | _ => none
  | t :: ts, ds, r => match ds with
    | d :: l => (Tg.put t d r).bind fun r' => Tg.puts ts l r'
    | [] => none
end
mutual
def Tg.sl : Tg → List Nat
  | .n i => [i]
  | .tu ts => Tg.sls ts
def Tg.sls : List Tg → List Nat
  | [] => []
  | t :: ts => Tg.sl t ++ Tg.sls ts
end
mutual
def Tg.ok (ck : Ck) : Tg → Expr → Bool
  | .n i, e => match e with
    | .Name x _ => atB ck i x && stB ck x
    | _ => false
  | .tu ts, e => match e with
    | .Tuple es _ _ => Tg.oks ck ts es
    | _ => false
def Tg.oks (ck : Ck) : List Tg → List Expr → Bool
  | [], es => es.isEmpty
  | t :: ts, es => match es with
    | e :: r => Tg.ok ck t e && Tg.oks ck ts r
    | [] => false
end
def SetIn (ns : List Nat) (σ σ' : St) : Prop := σ'.length = σ.length ∧ ∀ i, i ∉ ns → σ'[i]? = σ[i]?
def gT (G : Gx) (t : Tg) : TG := fun v σ H Qs => ∃ d r h M r', RL G h M H ∧ RE G M H r σ ∧ RV G M H d v ∧ Tg.put t d r = some r' ∧ ∀ σ', RE G M H r' σ' → SetIn (Tg.sl t) σ σ' → Qs σ' H
def gTs (G : Gx) (ts : List Tg) : TGs := fun vs σ H Qs => ∃ ds r h M r', RL G h M H ∧ RE G M H r σ ∧ RVs G M H ds vs ∧ Tg.puts ts ds r = some r' ∧ ∀ σ', RE G M H r' σ' → SetIn (Tg.sls ts) σ σ' → Qs σ' H
section
variable {X : Cx} {G : Gx} {ck : Ck} {k : Nat} {Wx : WX} {a : Expr} {es : List Expr}
theorem st_of (C : Cok X G ck k Wx) {y : Str} (h : stB ck y = true) : L2.Loc X.env.scope y ∧ (X.fn y = true ∨ X.env.scope.names.lookup y = some .local) := by
  unfold L2.Loc; rw [C.hsc]
  unfold stB at h
  split at h
  · exact ⟨.inl (by assumption), .inr (by assumption)⟩
  · exact ⟨.inr (by assumption), .inl (C.fn (by simpa using h) y)⟩
  · cases h
theorem eachT : ∀ {ts : List Tg} {es : List Expr} {env : Env}, Tg.oks ck ts es = true → (assignEach es env).length = ts.length ∧ (assignEach es env).findIdx? (·.1) = none
  | [], es, env, h => by
    cases es with
    | nil => exact ⟨rfl, rfl⟩
    | cons a b => simp [Tg.oks] at h
  | t :: ts, es, env, h => by
    cases es with
    | nil => simp [Tg.oks] at h
    | cons a b =>
      unfold Tg.oks at h
      simp only [Bool.and_eq_true] at h
      obtain ⟨i1, i2⟩ := eachT (env := env) h.2
      have e : assignEach (a :: b) env = (false, assign a env) :: assignEach b env := by
        cases t <;> cases a <;> first | rfl | (simp [Tg.ok] at h)
      rw [e]
      exact ⟨by simp [i1], by simp [List.findIdx?_cons, i2]⟩
theorem consT {t : Tg} (h : Tg.ok ck t a = true) {env : Env} : (assignEach (a :: es) env).map (·.2) = assign a env :: (assignEach es env).map (·.2) := by
  cases t <;> cases a <;> first | rfl | (simp [Tg.ok] at h)
mutual
theorem sg_T (C : Cok X G ck k Wx) : ∀ (t : Tg) {a : Expr}, Tg.ok ck t a = true → PG X a (gT G t)
  | .n i, a, h => by
    cases a <;> unfold Tg.ok at h <;> simp only [Bool.false_eq_true] at h
    simp only [Bool.and_eq_true, atB, decide_eq_true_eq] at h
    obtain ⟨s1, s2⟩ := st_of C h.2
    have hg := pg_name (pos := by assumption) C.nd (by rw [C.hN]; exact h.1) s1 s2
    refine ⟨fun pins s σ H v u Qs I ru ⟨d, r, hh, M, r', rl, re, rv, w, kq⟩ => hg.run pins s σ H v u Qs I ru ?_⟩
    simp only [Tg.put, Option.some.injEq] at w
    subst w
    exact kq _ (re.set rv) ⟨by simp, fun j hj => List.getElem?_set_ne (fun z => hj (by simp [Tg.sl, z]))⟩
  | .tu ts, a, h => by
    cases a <;> unfold Tg.ok at h <;> simp only [Bool.false_eq_true] at h
    have hg := sg_Ts C ts h
    have e := eachT (env := X.env) h
    have hg' := pg_tup (pos := by assumption) (k := by assumption) C.calm hg e.1 e.2
    refine ⟨fun pins s σ H v u Qs I ru ⟨d, r, hh, M, r', rl, re, rv, w, kq⟩ => hg'.run pins s σ H v u Qs I ru ?_⟩
    unfold Tg.put at w
    split at w
    · split at w
      · rename_i hl
        cases rv with
        | tup h1 r1 =>
          refine ⟨_, _, rfl, h1.sq C.hK, ?_, _, r, hh, M, r', rl, re, r1, w, fun σ' a b => kq σ' a (by unfold Tg.sl; exact b)⟩
          rw [← r1.length]
          exact hl
      · cases w
    · cases w
theorem sg_Ts (C : Cok X G ck k Wx) : ∀ (ts : List Tg) {es : List Expr}, Tg.oks ck ts es = true → PGs X es (gTs G ts)
  | [], es, h => by
    cases es with
    | cons a b => simp [Tg.oks] at h
    | nil =>
      refine ⟨fun pins s σ H vs us Qs I ru ⟨ds, r, hh, M, r', rl, re, rv, w, kq⟩ => pgs_nil.run pins s σ H vs us Qs I ru ?_⟩
      unfold Tg.puts at w
      split at w
      · cases w
        cases rv
        exact ⟨rfl, kq _ re ⟨rfl, fun _ _ => rfl⟩⟩
      · cases w
  | t :: ts, es, h => by
    cases es with
    | nil => simp [Tg.oks] at h
    | cons a b =>
      unfold Tg.oks at h
      simp only [Bool.and_eq_true] at h
      have h1 := sg_T C t h.1
      have h2 := sg_Ts C ts h.2
      have hg := pgs_cons h1 h2 (consT h.1)
      refine ⟨fun pins s σ H vs us Qs I ru ⟨ds, r, hh, M, r', rl, re, rv, w, kq⟩ => hg.run pins s σ H vs us Qs I ru ?_⟩
      unfold Tg.puts at w
      split at w
      · obtain ⟨r2, w1, w2⟩ := Option.bind_eq_some_iff.mp w
        cases rv with
        | cons r1 rr =>
          refine ⟨_, _, rfl, _, r, hh, M, r2, rl, re, r1, w1, fun σ' re' si => ?_⟩
          exact ⟨_, r2, hh, M, r', rl, re', rr, w2, fun σ2 re2 si2 => kq σ2 re2 ⟨si2.1.trans si.1, fun i hi => by
            simp only [Tg.sls, List.mem_append, not_or] at hi
            exact (si2.2 i hi.2).trans (si.2 i hi.1)⟩⟩
      · cases w
end
end
/-! ### what is walked -/
def ItOk (G : Gx) (M : Mp) (H : Hp) (xs : List D) (J : It) : Prop := ∀ h2 M2 H2, Keep M H M2 H2 → RL G h2 M2 H2 →
  (∀ i, i < xs.length → J.go i H2 ∧ ∀ x H3, J.yld i H2 x H3 → ∃ d M3, xs[i]? = some d ∧ Ext M2 H2 M3 H3 ∧ RL G h2 M3 H3 ∧ RV G M3 H3 d x) ∧ ∀ i, xs.length = i → J.stop i H2
def KI (G : Gx) (Wx : WX) (σ : St) (M : Mp) (H : Hp) (R : It → Hp → Prop) : Res (List D) → Prop
  | .ok xs h' => ∀ J M' H', Ext M H M' H' → RL G h' M' H' → ItOk G M' H' xs J → R J H'
  | .exc c fs h' => ∀ cls dx M' H', Ext M H M' H' → RL G h' M' H' → RX G M' H' c fs cls dx → Wx cls dx σ H'
  | .no => False
def tI (G : Gx) (Wx : WX) (sem : Rho → Hh → Res (List D)) : TI := fun σ H R => ∃ r h M, RL G h M H ∧ RE G M H r σ ∧ KI G Wx σ M H R (sem r h)
structure Ib where
  sem : Rho → Hh → Res (List D)
  ok : Ck → Expr → Bool
  need : Tb → Prop
  tgt : Expr → Bool
  set : ∀ ck a, ok ck a = true → notSet a = true
  snd : ∀ {X : Cx} {G : Gx} {ck : Ck} {k : Nat} {Wx : WX} {tg a : Expr}, Cok X G ck k Wx → tgt tg = true → ok ck a = true → need (tbOf X G k) → PI X tg a (tI G Wx sem)
theorem oneI {α' β' : Type} {Rel' : Mp → Hp → α' → β' → Prop} {G : Gx} {Wx : WX} {σ : St} {M : Mp} {H : Hp} {R : It → Hp → Prop} {m : Res α'} {f : α' → Hh → Res (List D)} {Q : β' → Hp → Prop} (k : KI G Wx σ M H R (m.bind f))
    (c : ∀ a b h1 M1 H1, Ext M H M1 H1 → RL G h1 M1 H1 → Rel' M1 H1 a b → KI G Wx σ M1 H1 R (f a h1) → Q b H1) : KG Rel' G Wx σ M H Q m := by
  cases m with
  | ok d h' =>
    refine fun v M2 H2 e2 r2 q => c d v h' M2 H2 e2 r2 q ?_
    simp only [bind_ok] at k
    cases e : f d h' with
    | no => rw [e] at k; exact k
    | ok xs h2 => rw [e] at k; exact fun J M3 H3 e3 => k J M3 H3 (e2.trans e3)
    | exc x fs h2 => rw [e] at k; exact fun cls dx M3 H3 e3 => k cls dx M3 H3 (e2.trans e3)
  | exc x fs h' => exact k
  | no => exact k
section
variable {X : Cx} {G : Gx} {ck : Ck} {k : Nat} {Wx : WX} {tg : Expr} {σ : St} {H : Hp} {M : Mp} {h : Hh}
theorem it_tup (gk : Gk G) (hK : G.K = X.K) {p : Addr} {l : List D} {vs : List V} (x : TupAt G M.F H p vs) (rv : RVs G M H l vs) : ItOk G M H l (Itt X.K p) := by
  intro h2 M2 H2 e r2
  have x2 := (x.keep e).sq hK
  have rv2 := rv.keep gk e
  refine ⟨fun i hi => ⟨⟨vs, vs[i]'(by rw [← rv.length]; exact hi), x2, by simp⟩, fun y H3 hy => ?_⟩, fun i hi => ⟨vs, x2, by rw [← rv.length]; exact Nat.le_of_eq hi⟩⟩
  obtain ⟨rfl, hy⟩ := hy
  obtain ⟨d, e1, r1⟩ := rv2.getV (hy vs x2)
  exact ⟨d, M2, e1, Ext.refl, r2, r1⟩
theorem it_lsq {p : Addr} {l : List D} (x : ∀ M2 H2, Keep M H M2 H2 → ∃ vs, SqL X.K H2 p vs ∧ RVs G M2 H2 l vs) : ItOk G M H l (Itl X.K p) := by
  intro h2 M2 H2 e r2
  obtain ⟨vs, x2, rv2⟩ := x M2 H2 e
  refine ⟨fun i hi => ⟨⟨vs, vs[i]'(by rw [← rv2.length]; exact hi), x2, by simp⟩, fun y H3 hy => ?_⟩, fun i hi => ⟨vs, x2, by rw [← rv2.length]; exact Nat.le_of_eq hi⟩⟩
  obtain ⟨rfl, hy⟩ := hy
  obtain ⟨d, e1, r1⟩ := rv2.getV (hy vs x2)
  exact ⟨d, M2, e1, Ext.refl, r2, r1⟩
theorem it_rng {lo : Int} {n : Nat} : ItOk G M H ((List.range n).map fun (k : Nat) => D.int (lo + (k : Int))) (Itr lo n) := by
  intro h2 M2 H2 e r2
  refine ⟨fun i hi => ?_, fun i hi => ?_⟩
  · simp only [List.length_map, List.length_range] at hi
    refine ⟨hi, fun y H3 hy => ?_⟩
    obtain ⟨rfl, rfl⟩ := hy
    exact ⟨.int (lo + i), M2, by simp [hi], Ext.refl, r2, .int _⟩
  · simp only [List.length_map, List.length_range] at hi
    exact Nat.le_of_eq hi
theorem iter_list {pins : List (Addr × Obj)} {s : Shared} {R : It → Hp → Prop} {p : Addr} {xs : List V} (I : Inv X pins σ H s) (hq : SqL X.K H p xs) (q : R (Itl X.K p) H) : wpAny (model X.prog X.w) X.A (pyIter (.ref p)) (PIE X pins σ tg R) X.xe s := by
  obtain ⟨its, rv, pl, hz⟩ := I.list hq
  refine wpAny_pyIter_list pl.isList ?_
  refine ⟨s.heap.objs.size, [s.heap.objs.size], _, _, H, rfl, I.kept (t' := s.toks) fun b o e => Heap.get?_push_of_some _ e, turn_list p _, ⟨_, Heap.get?_push_size _ rfl, rfl, rfl⟩, fun b hb => ?_, q⟩
  have e : b = s.heap.objs.size := by simpa using hb
  subst e
  exact I.fpOk (Nat.le_refl _) (I.hok.fresh (Nat.le_refl _))
theorem iter_tup {pins : List (Addr × Obj)} {s : Shared} {R : It → Hp → Prop} {p : Addr} {xs : List V} (I : Inv X pins σ H s) (hq : SqT X.K H p xs) (q : R (Itt X.K p) H) : wpAny (model X.prog X.w) X.A (pyIter (.ref p)) (PIE X pins σ tg R) X.xe s := by
  obtain ⟨its, rv, pl, hz⟩ := I.tuple hq
  refine wpAny_pyIter_tuple (show s.heap.IsTuple p its.toArray from pl) ?_
  refine ⟨s.heap.objs.size, [s.heap.objs.size], _, _, H, rfl, I.kept (t' := s.toks) fun b o e => Heap.get?_push_of_some _ e, turn_tuple p _, ⟨_, Heap.get?_push_size _ rfl, rfl, rfl⟩, fun b hb => ?_, q⟩
  have e : b = s.heap.objs.size := by simpa using hb
  subst e
  exact I.fpOk (Nat.le_refl _) (I.hok.fresh (Nat.le_refl _))
theorem it_frz (gk : Gk G) {p : Addr} {l : List D} (hf : M.F p) (ro : RO G M H p (.lst l)) : ItOk G M H l (Itl X.K p) := it_lsq fun M2 H2 e => by
  cases ro.keep gk e (e.k p hf).2 with
  | lst h r => exact ⟨_, SqL.of h, r⟩
end
/-- a tuple or a list that is written no more -/
def Ib.seq (x : Xp) : Ib where
  sem r h := (x.sem r h).bind fun d h1 => ofO (items d) h1
  ok ck a := x.ok ck a && notSet a
  need := x.need
  tgt _ := true
  set _ _ h := (Bool.and_eq_true_iff.mp h).2
  snd {X G ck k Wx tg a} C ht h n := by
    have h := (Bool.and_eq_true_iff.mp h).1
    refine ⟨fun pins s σ H R I ⟨r, hh, M, rl, re, k⟩ => ?_⟩
    refine thn ((x.snd C h n).run pins s σ H (fun v H1 => ∃ d h1 M1, Ext M H M1 H1 ∧ RL G h1 M1 H1 ∧ RV G M1 H1 d v ∧ KI G Wx σ M1 H1 R (ofO (items d) h1)) I ⟨r, hh, M, rl, re, oneI k fun d v h1 M1 H1 e1 r1 b1 k1 => ⟨d, h1, M1, e1, r1, b1, k1⟩⟩) fun v s1 ⟨y, H1, I1, ry, d, h1, M1, e1, r1, rv, k1⟩ => ?_
    cases rv <;> simp only [items, ofO_some, ofO_none] at k1 <;> first | exact k1.elim | cases ry
    · rename_i a1 r2 _
      exact iter_tup I1 (a1.sq C.hK) (k1 _ M1 H1 Ext.refl r1 (it_tup C.gk C.hK a1 r2))
    · rename_i a1 r2 _
      exact iter_list I1 (a1.sq C.hK) (k1 _ M1 H1 Ext.refl r1 (it_lsq fun M2 H2 e => ⟨_, (a1.keep e).sq C.hK, r2.keep C.gk e⟩))
    · rename_i hf ro _
      have ro' := ro
      cases ro with
      | lst h1 rr => exact iter_list I1 (SqL.of h1) (k1 _ M1 H1 Ext.refl r1 (it_frz C.gk hf ro'))
def rngOk (j : Int) : Bool := decide (-(2 ^ 62) ≤ j) && decide (j < 2 ^ 62)
theorem rngOk_some {j : Int} (h : rngOk j = true) : -(2 ^ 62) ≤ j ∧ j < 2 ^ 62 := by
  simp only [rngOk, Bool.and_eq_true, decide_eq_true_eq] at h
  exact h
def Ib.r1 (x : Xp) : Ib where
  sem r h := (x.sem r h).bind fun d h1 => match d with
    | .int j => if rngOk j then .ok ((List.range j.toNat).map fun (k : Nat) => D.int (k : Int)) h1 else .no
    | _ => .no
  ok ck a := match a with
    | .Call (.Name f _) [y] [] _ => f == ("range" : Str) && globB ck f && x.ok ck y
    | _ => false
  need t := BtL t "range" ∧ x.need t
  tgt _ := true
  set _ a h := by cases a <;> first | rfl | (simp at h)
  snd {X G ck k Wx tg a} C ht h n := by
    split at h
    · simp only [Bool.and_eq_true, beq_iff_eq] at h
      obtain ⟨⟨rfl, hg⟩, h2⟩ := h
      obtain ⟨g1, g2, g3⟩ := gl_of C hg
      have hs := x.star _ _ h2
      refine PI.imp (pi_range1 g1 (by rw [← C.hmg]; exact n.1) (pa_cons (x.snd C h2 n.2) pa_nil (star_cons hs _)) (star_cons hs _)) fun σ H R ⟨r, hh, M, rl, re, k⟩ => ⟨r, hh, M, rl, re, oneI k fun d v h1 M1 H1 e1 r1 b1 k1 => ?_⟩
      try dsimp only at k1
      split at k1
      · split at k1
        · rename_i j hj
          cases b1
          refine ⟨_, rfl, (rngOk_some hj).1, (rngOk_some hj).2, k1 _ M1 H1 Ext.refl r1 ?_⟩
          have := it_rng (G := G) (M := M1) (H := H1) (lo := 0) (n := j.toNat)
          simpa using this
        · exact k1.elim
      · exact k1.elim
    · cases h
def Ib.r2 (x y : Xp) : Ib where
  sem r h := (x.sem r h).bind fun d h1 => (y.sem r h1).bind fun e h2 => match d, e with
    | .int i, .int j => if rngOk i && rngOk j then .ok ((List.range (j - i).toNat).map fun (k : Nat) => D.int (i + (k : Int))) h2 else .no
    | _, _ => .no
  ok ck a := match a with
    | .Call (.Name f _) [u, v] [] _ => f == ("range" : Str) && globB ck f && x.ok ck u && y.ok ck v
    | _ => false
  need t := BtL t "range" ∧ x.need t ∧ y.need t
  tgt _ := true
  set _ a h := by cases a <;> first | rfl | (simp at h)
  snd {X G ck k Wx tg a} C ht h n := by
    split at h
    · simp only [Bool.and_eq_true, beq_iff_eq] at h
      obtain ⟨⟨⟨rfl, hg⟩, h2⟩, h3⟩ := h
      obtain ⟨g1, g2, g3⟩ := gl_of C hg
      have hs := x.star _ _ h2
      have hs2 := y.star _ _ h3
      refine PI.imp (pi_range2 g1 (by rw [← C.hmg]; exact n.1) (pa_cons (x.snd C h2 n.2.1) (pa_cons (y.snd C h3 n.2.2) pa_nil (star_cons hs2 _)) (star_cons hs _)) (by rw [star_cons hs, star_cons hs2]; rfl) (star_cons hs2 _)) fun σ H R ⟨r, hh, M, rl, re, k⟩ => ⟨r, hh, M, rl, re, oneI k fun d v h1 M1 H1 e1 r1 b1 k1 => ⟨r, h1, M1, r1, re.ext C.gk rl e1, oneI k1 fun e u h2 M2 H2 e2 r2 b2 k2 => ?_⟩⟩
      try dsimp only at k2
      split at k2
      · split at k2
        · rename_i i j hj
          simp only [Bool.and_eq_true] at hj
          cases b1; cases b2
          exact ⟨_, _, rfl, ⟨(rngOk_some hj.1).1, (rngOk_some hj.1).2, (rngOk_some hj.2).1, (rngOk_some hj.2).2⟩, k2 _ M2 H2 Ext.refl r2 it_rng⟩
        · exact k2.elim
      · exact k2.elim
    · cases h
end Pf

set_option Elab.async false
set_option linter.all false
set_option maxRecDepth 100000
/-! ## Comprehensions -/
namespace Pf
open PySem L2
def noX {α : Type} : Res α → Res α
  | .ok a h => .ok a h
  | _ => .no
@[simp] theorem noX_ok {α : Type} {a : α} {h : Hh} : noX (Res.ok a h) = .ok a h := rfl
def semT : Option Xt → Rho → Hh → Res Bool
  | none, _, h => .ok true h
  | some t, r, h => t.sem r h
def okT : Option Xt → Ck → List Expr → Bool
  | none, _, es => es.isEmpty
  | some t, ck, es => match es with
    | [e] => t.ok ck e
    | _ => false
def needT : Option Xt → Tb → Prop
  | none, _ => True
  | some t, b => t.need b
abbrev W0 : WX := fun _ _ _ _ => False
theorem sndT (o : Option Xt) {X : Cx} {G : Gx} {ck : Ck} {k : Nat} {Wx : WX} {es : List Expr} (C : Cok X G ck k Wx) (h : okT o ck es = true) (n : needT o (tbOf X G k)) : PTs X es (tG (fun _ _ (b c : Bool) => b = c) G Wx (semT o)) := by
  cases o with
  | none =>
    cases es with
    | cons a b => simp [okT] at h
    | nil => exact PTs.imp pts_nil fun σ H Qv ⟨r, h, M, rl, re, k⟩ => k _ M H Ext.refl rl rfl
  | some t =>
    simp only [okT] at h
    split at h
    · exact pts_one (t.snd C h n)
    · cases h
theorem Cok.blk {X : Cx} {G : Gx} {ck : Ck} {k : Nat} {Wx : WX} (C : Cok X G ck k Wx) {s : Shared} {H : Hp} {scope : Scope} {Cc : Addr} {cl : List (Str × Addr)} {fp : List Addr} : Cok (X.blk s H scope (compEnvC scope cl Cc X.env) fp) G ⟨ck.N, relS scope ck.sc, true⟩ k W0 where
  hK := C.hK
  hmg := C.hmg
  hN := C.hN
  hsc := by rw [← C.hsc]; rfl
  calm := C.calm
  nd := C.nd
  room := C.room
  tk := fun u s' ⟨_, _, _, _, _, _, _, _, _, _, _, _, _, _, _, _, h⟩ => h
  own := PassesOwn.never
  fn := fun h => nomatch h
  gk := C.gk
theorem wipe_get (σ : St) (i : Nat) : ∀ vs : List Nat, (wipe σ vs)[i]? = if i ∈ vs ∧ i < σ.length then some none else σ[i]?
  | [] => by simp [wipe]
  | v :: vs => by
    unfold wipe
    by_cases h : v = i
    · subst h
      by_cases hl : v < σ.length
      · rw [List.getElem?_set_self (by rw [wipe_length]; exact hl)]; simp [hl]
      · rw [List.getElem?_eq_none (by simpa [wipe_length] using hl)]
        simp [hl]
    · rw [List.getElem?_set_ne h, wipe_get σ i vs]
      simp [Ne.symm h]
theorem wipe_same {σ σ2 : St} {vs ns : List Nat} (h : SetIn ns (wipe σ vs) σ2) (hn : ∀ i ∈ ns, i ∈ vs) : wipe σ2 vs = wipe σ vs := by
  have hl : σ2.length = σ.length := h.1.trans (wipe_length _ _)
  refine List.ext_getElem? fun i => ?_
  rw [wipe_get, wipe_get]
  by_cases hi : i ∈ vs ∧ i < σ.length
  · rw [if_pos hi, if_pos (by rw [hl]; exact hi)]
  · rw [if_neg hi, if_neg (by rw [hl]; exact hi)]
    by_cases hv : i ∈ vs
    · have : ¬ i < σ.length := fun z => hi ⟨hv, z⟩
      rw [List.getElem?_eq_none (by rw [hl]; omega), List.getElem?_eq_none (by omega)]
    · rw [h.2 i (fun z => hv (hn i z)), wipe_get, if_neg (fun z => hv z.1)]
def wipeR : Rho → List Nat → Rho
  | r, [] => r
  | r, i :: l => (wipeR r l).set i .un
theorem wipeR_len (r : Rho) : ∀ l, (wipeR r l).length = r.length
  | [] => rfl
  | i :: l => by simp [wipeR, wipeR_len r l]
theorem wipeR_get {r : Rho} {s : Sl} {i : Nat} (hs : s ≠ .un) : ∀ {l : List Nat}, (wipeR r l)[i]? = some s → i ∉ l ∧ r[i]? = some s
  | [], h => ⟨by simp, h⟩
  | j :: l, h => by
    unfold wipeR at h
    by_cases z : j = i
    · subst z
      by_cases hi : j < (wipeR r l).length
      · rw [List.getElem?_set_self hi] at h; cases h; exact absurd rfl hs
      · rw [List.getElem?_eq_none (by simpa using hi)] at h; cases h
    · rw [List.getElem?_set_ne z] at h
      obtain ⟨h1, h2⟩ := wipeR_get hs h
      exact ⟨by simp [Ne.symm z, h1], h2⟩
theorem RE.wipe {G : Gx} {M : Mp} {H : Hp} {r : Rho} {σ : St} (x : RE G M H r σ) (l : List Nat) : RE G M H (wipeR r l) (L2.wipe σ l) := by
  have hg : ∀ {i : Nat} {o : Option V}, i ∉ l → σ[i]? = some o → (L2.wipe σ l)[i]? = some o := fun {i o} hn h => by rw [wipe_get, if_neg (fun z => hn z.1)]; exact h
  have hb : ∀ {i : Nat} {o : Option V}, i ∉ l → (L2.wipe σ l)[i]? = some o → σ[i]? = some o := fun {i o} hn h => by rw [wipe_get, if_neg (fun z => hn z.1)] at h; exact h
  refine ⟨by rw [wipeR_len, x.len, wipe_length], fun i d q => ?_, fun i d q => ?_, fun i j d e a q1 q2 s1 s2 => ?_⟩
  · obtain ⟨h1, h2⟩ := wipeR_get (by simp) q
    obtain ⟨v, h3, h4⟩ := x.pl i d h2
    exact ⟨v, hg h1 h3, h4⟩
  · obtain ⟨h1, h2⟩ := wipeR_get (by simp) q
    obtain ⟨v, h3, h4⟩ := x.ow i d h2
    exact ⟨v, hg h1 h3, h4⟩
  · obtain ⟨h1, h2⟩ := wipeR_get (by simp) q1
    obtain ⟨h3, h4⟩ := wipeR_get (by simp) q2
    exact x.one i j d e a h2 h4 (hb h1 s1) (hb h3 s2)
/-- the turns of a comprehension -/
def lcGo (t : Tg) (b : Rho → Hh → Res Bool) (e : Rho → Hh → Res D) (r : Rho) : List D → Hh → Res (List D)
  | [], h => .ok [] h
  | x :: xs, h => match t.put x r with
    | none => .no
    | some r2 => (noX (b r2 h)).bind fun c h1 => if c then (noX (e r2 h1)).bind fun d h2 => (lcGo t b e r xs h2).bind fun ds h3 => .ok (d :: ds) h3 else lcGo t b e r xs h1
def lcB (e : Xp) (t : Tg) (it : Ib) (ifs : Option Xt) (own : List (Str × Nat)) (ck : Ck) (a : Expr) : Bool := match a with
  | .ListComp x [⟨tg, iter, cs, 0⟩] scope _ => blkC ck.N ck.sc scope own && (Tg.sl t).all (fun i => decide (i ∈ own.map (·.2))) && it.ok ck iter && Tg.ok ⟨ck.N, relS scope ck.sc, true⟩ t tg && okT ifs ⟨ck.N, relS scope ck.sc, true⟩ cs && e.ok ⟨ck.N, relS scope ck.sc, true⟩ x && it.tgt tg
  | _ => false
theorem kn_up {G : Gx} {h : Hh} {M1 M' : Mp} {H1 H' : Hp} {Dd : Addr} {o : HO} (gk : Gk G) (e : Ext M1 H1 M' H') (hD : H1 Dd = none) : Ext M1 H1 M' (upd H' Dd o) := ⟨fun b u hb nb yb => by rw [upd_ne (fun z => by subst z; rw [hD] at hb; cases hb)]; exact e.keep b u hb nb yb, fun b hb => by
  by_cases z : b = Dd
  · subst z; exact hD
  · rw [upd_ne z] at hb; exact e.trk b hb, e.fz, e.pre, e.newF⟩
theorem lcB_some {e : Xp} {t : Tg} {it : Ib} {ifs : Option Xt} {own : List (Str × Nat)} {ck : Ck} {a : Expr} (h : lcB e t it ifs own ck a = true) : ∃ x tg iter cs scope p, a = .ListComp x [⟨tg, iter, cs, 0⟩] scope p ∧ blkC ck.N ck.sc scope own = true ∧ (Tg.sl t).all (fun i => decide (i ∈ own.map (·.2))) = true ∧ it.ok ck iter = true ∧ Tg.ok ⟨ck.N, relS scope ck.sc, true⟩ t tg = true ∧ okT ifs ⟨ck.N, relS scope ck.sc, true⟩ cs = true ∧ e.ok ⟨ck.N, relS scope ck.sc, true⟩ x = true ∧ it.tgt tg = true := by
  unfold lcB at h
  split at h
  · simp only [Bool.and_eq_true] at h
    obtain ⟨⟨⟨⟨⟨⟨h1, h2⟩, h3⟩, h4⟩, h5⟩, h6⟩, h7⟩ := h
    exact ⟨_, _, _, _, _, _, rfl, h1, h2, h3, h4, h5, h6, h7⟩
  · cases h
def lcSem (e : Xp) (t : Tg) (it : Ib) (ifs : Option Xt) (own : List (Str × Nat)) (r : Rho) (h : Hh) : Res D := (it.sem r h).bind fun xs h1 => if xs.length ≤ line then (lcGo t (semT ifs) e.sem (wipeR r (own.map (·.2))) xs h1).bind fun ds h2 => .ok (.lst ds) h2 else .no
theorem lc_read {X : Cx} {G : Gx} {ck : Ck} {k : Nat} {Wx : WX} (C : Cok X G ck k Wx) {e : Xp} {t : Tg} {it : Ib} {ifs : Option Xt} {own : List (Str × Nat)} (h2 : (Tg.sl t).all (fun i => decide (i ∈ own.map (·.2))) = true) : ∀ σ H Qv, tN G Wx (lcSem e t it ifs own) σ H Qv → tLc (tI G Wx it.sem) (gT G t) (tG (fun _ _ (b c : Bool) => b = c) G W0 (semT ifs)) (tG (RV G) G W0 e.sem) (own.map (·.2)) σ H Qv := by
  intro σ H Qv ⟨r, hh, M, rl, re, k⟩
  refine ⟨r, hh, M, rl, re, ?_⟩
  unfold lcSem at k
  cases q0 : it.sem r hh with
  | no => rw [q0] at k; exact k
  | exc c fs h' => rw [q0] at k; exact k
  | ok xs hx =>
    rw [q0] at k
    simp only [bind_ok] at k
    split at k
    · rename_i hl
      intro J M1 H1 e1 r1 ok Dd hD
      have k := k.back e1
      refine ⟨fun i m H' => m = xs.length - i ∧ i ≤ xs.length ∧ ∃ acc avs h' M', acc.length ≤ i ∧ Ext M1 H1 M' H' ∧ RL G h' M' H' ∧ H' Dd = some (.lst avs) ∧ Dd ∉ M'.bs ∧ ¬ M'.F Dd ∧ RVs G M' H' acc avs ∧
          KG (RN H G) G Wx σ M1 H1 Qv ((lcGo t (semT ifs) e.sem (wipeR r (own.map (·.2))) (xs.drop i) h').bind fun ds h2 => .ok (.lst (acc ++ ds)) h2),
        ⟨xs.length, by simp, Nat.zero_le _, [], [], hx, M1, by simp, Ext.loose hD, r1.poke C.gk (r1.free hD) (r1.freeF hD), upd_same, r1.free hD, r1.freeF hD, .nil, k⟩, ?_⟩
      rintro i m H' ⟨rfl, hi', acc, avs, h', M', ha, e2, r2, at2, n2, f2, ra, k2⟩
      have ok2 := ok h' M' H' (e2.kp r1) r2
      by_cases hlt : i < xs.length
      · refine .inr ⟨(ok2.1 i hlt).1, fun H4 => ∃ acc avs h4 M4, acc.length ≤ i + 1 ∧ Ext M1 H1 M4 H4 ∧ RL G h4 M4 H4 ∧ H4 Dd = some (.lst avs) ∧ Dd ∉ M4.bs ∧ ¬ M4.F Dd ∧ RVs G M4 H4 acc avs ∧
          KG (RN H G) G Wx σ M1 H1 Qv ((lcGo t (semT ifs) e.sem (wipeR r (own.map (·.2))) (xs.drop (i + 1)) h4).bind fun ds h2 => .ok (.lst (acc ++ ds)) h2), fun H4 q => ⟨xs.length - (i + 1), by omega, rfl, by omega, q⟩, fun y H3 hy => ?_⟩
        obtain ⟨d, M3, ed, e3, r3, rv3⟩ := (ok2.1 i hlt).2 y H3 hy
        have re3 := (((re.ext C.gk rl e1).ext C.gk r1 e2).ext C.gk r2 e3).wipe (own.map (·.2))
        have hdrop : xs.drop i = d :: xs.drop (i + 1) := by
          rw [List.drop_eq_getElem_cons hlt]
          rw [List.getElem?_eq_getElem hlt] at ed
          cases ed; rfl
        rw [hdrop, lcGo] at k2
        split at k2
        · exact k2.elim
        · rename_i r4 ep
          have lo : ∀ {M4 : Mp} {H4 : Hp}, Ext M' H' M4 H4 → H4 Dd = some (.lst avs) ∧ Dd ∉ M4.bs ∧ ¬ M4.F Dd := fun {M4 H4} e4 => ⟨e4.keep _ _ at2 n2 fun _ z => (nomatch z), e4.off at2 n2, e4.offF r2 at2 (fun _ z => nomatch z) n2 f2⟩
          refine ⟨d, _, h', M3, r4, r3, re3, rv3, ep, fun σ' re' si => ⟨wipe_same si fun j hj => by simpa using List.all_eq_true.mp h2 j hj, ?_⟩⟩
          cases q1 : semT ifs r4 h' with
          | no => rw [q1] at k2; exact k2.elim
          | exc c fs hq => rw [q1] at k2; exact k2.elim
          | ok c h5 =>
            rw [q1] at k2
            simp only [noX_ok, bind_ok] at k2
            refine ⟨r4, h', M3, r3, re', ?_⟩
            rw [q1]
            rintro _ M4 H4 e4 rl4 rfl
            cases c with
            | false =>
              simp only [Bool.false_eq_true, if_false] at k2 ⊢
              obtain ⟨l1, l2, l3⟩ := lo (e3.trans e4)
              exact ⟨acc, avs, h5, M4, by omega, (e2.trans e3).trans e4, rl4, l1, l2, l3, (ra.ext C.gk r2 e3).ext C.gk r3 e4, k2⟩
            | true =>
              simp only [if_true] at k2 ⊢
              cases q2 : e.sem r4 h5 with
              | no => rw [q2] at k2; exact k2.elim
              | exc c fs hq => rw [q2] at k2; exact k2.elim
              | ok dz h6 =>
                rw [q2] at k2
                simp only [noX_ok, bind_ok] at k2
                refine ⟨r4, h5, M4, rl4, re'.ext C.gk r3 e4, ?_⟩
                rw [q2]
                intro z M6 H6 e6 r6 rz
                obtain ⟨l1, l2, l3⟩ := lo ((e3.trans e4).trans e6)
                have ra6 := ((ra.ext C.gk r2 e3).ext C.gk r3 e4).ext C.gk rl4 e6
                have hz : avs.length < sizeLine := by
                  rw [← ra6.length, ← line_eq]
                  omega
                refine ⟨avs, l1, hz, acc ++ [dz], avs ++ [z], h6, M6, by simp; omega, kn_up (h := h6) C.gk (((e2.trans e3).trans e4).trans e6) hD, r6.poke C.gk l2 l3, upd_same, l2, l3, (ra6.append (.cons rz .nil)).keep C.gk (Keep.poke l3), ?_⟩
                have ea : ∀ (m : Res (List D)), ((m.bind fun ds h3 => Res.ok (dz :: ds) h3).bind fun ds h2 => Res.ok (D.lst (acc ++ ds)) h2) = m.bind fun ds h2 => Res.ok (D.lst (acc ++ [dz] ++ ds)) h2 := by
                  intro m; cases m <;> simp
                rw [ea] at k2
                exact k2
      · have ei : xs.drop i = [] := List.drop_eq_nil_iff.mpr (by omega)
        rw [ei, lcGo] at k2
        simp only [bind_ok, List.append_nil] at k2
        exact .inl ⟨ok2.2 i (by omega), k2 _ M' H' e2 r2 ⟨Dd, rfl, .lst at2 ra, n2, f2, e1.trk _ hD⟩⟩
    · exact k.elim
/-- [e for t in it if b]; own: the names that are the comprehension's own -/
def Xn.lc (e : Xp) (t : Tg) (it : Ib) (ifs : Option Xt) (own : List (Str × Nat)) : Xn where
  sem := lcSem e t it ifs own
  ok := lcB e t it ifs own
  need b := e.need b ∧ it.need b ∧ needT ifs b
  star _ a h := by obtain ⟨_, _, _, _, _, _, rfl, _⟩ := lcB_some h; rfl
  snd {X G ck k Wx a} C h n := by
    obtain ⟨x, tg, iter, cs, scope, p, rfl, h1, h2, h3, h4, h5, h6, h7⟩ := lcB_some h
    exact PE.imp (pe_lc C.calm C.nd (it.snd C h7 h3 n.2.1) (blkOk_by (by rw [C.hN, C.hsc]; exact h1))
      (fun s H Cc cl fp => sg_T (C.blk (s := s) (H := H) (scope := scope) (Cc := Cc) (cl := cl) (fp := fp)) t h4)
      (fun s H Cc cl fp => sndT ifs (C.blk (s := s) (H := H) (scope := scope) (Cc := Cc) (cl := cl) (fp := fp)) h5 n.2.2)
      (fun s H Cc cl fp => e.snd (C.blk (s := s) (H := H) (scope := scope) (Cc := Cc) (cl := cl) (fp := fp)) h6 n.1) (by
        have h4 := it.set _ _ h3
        intro v
        cases iter <;> first | rfl | (simp [notSet] at h4))) (lc_read C h2)
end Pf

set_option Elab.async false
set_option linter.all false
set_option maxRecDepth 100000
/-! ## Statements -/
namespace Pf
open PySem L2
inductive Out where
  | nx (r : Rho) (h : Hh) | rt (d : D) (h : Hh) | bk (r : Rho) (h : Hh) | ct (r : Rho) (h : Hh) | exc (c : Nat) (fs : List (Nat × D)) (r : Rho) (h : Hh) | no
def Res.st {α : Type} (m : Res α) (r : Rho) (f : α → Hh → Out) : Out := match m with
  | .ok a h => f a h
  | .exc c fs h => .exc c fs r h
  | .no => .no
@[simp] theorem st_ok {α : Type} {a : α} {h : Hh} {r : Rho} {f : α → Hh → Out} : (Res.ok a h).st r f = f a h := rfl
@[simp] theorem st_exc {α : Type} {c : Nat} {fs : List (Nat × D)} {h : Hh} {r : Rho} {f : α → Hh → Out} : (Res.exc c fs h : Res α).st r f = .exc c fs r h := rfl
@[simp] theorem st_no {α : Type} {r : Rho} {f : α → Hh → Out} : (Res.no : Res α).st r f = .no := rfl
structure Sv (G : Gx) (M0 : Mp) (H0 : Hp) (r : Rho) (h : Hh) (M : Mp) (σ : St) (H : Hp) : Prop where
  ent : Ext M0 H0 M H
  rl : RL G h M H
  re : RE G M H r σ
  own : ∀ (i : Nat) (d : D) (a : Addr), r[i]? = some (Sl.ow d) → σ[i]? = some (some (V.ref a)) → H0 a = none
def KO (G : Gx) (Wx : WX) (M0 : Mp) (H0 : Hp) (M : Mp) (H : Hp) (Dn : Ends) : Out → Prop
  | .nx r' h' => ∀ σ' M' H', Keep M H M' H' → Sv G M0 H0 r' h' M' σ' H' → Dn.nx σ' H'
  | .rt d h' => ∀ v M' H', Ext M0 H0 M' H' → RL G h' M' H' → RV G M' H' d v → Dn.rt v H'
  | .bk r' h' => ∀ σ' M' H', Keep M H M' H' → Sv G M0 H0 r' h' M' σ' H' → Dn.bk σ' H'
  | .ct r' h' => ∀ σ' M' H', Keep M H M' H' → Sv G M0 H0 r' h' M' σ' H' → Dn.ct σ' H'
  | .exc c fs r' h' => ∀ cls dx σ' M' H', Keep M H M' H' → Sv G M0 H0 r' h' M' σ' H' → RX G M' H' c fs cls dx → Wx cls dx σ' H'
  | .no => False
theorem Keep.trans {M M1 M2 : Mp} {H H1 H2 : Hp} (a : Keep M H M1 H1) (b : Keep M1 H1 M2 H2) : Keep M H M2 H2 := ⟨fun x hx => ⟨(b.k x (a.k x hx).1).1, fun o q => (b.k x (a.k x hx).1).2 o ((a.k x hx).2 o q)⟩, fun i x q => b.b i x (a.b i x q)⟩
section
variable {G : Gx} {Wx : WX} {M0 M M1 : Mp} {H0 H H1 : Hp} {Dn : Ends} {r : Rho} {h h1 : Hh} {σ : St}
theorem KO.back {o : Out} (e : Keep M H M1 H1) (k : KO G Wx M0 H0 M H Dn o) : KO G Wx M0 H0 M1 H1 Dn o := by
  cases o with
  | nx r h => exact fun σ' M' H' q => k σ' M' H' (e.trans q)
  | rt d h => exact k
  | bk r h => exact fun σ' M' H' q => k σ' M' H' (e.trans q)
  | ct r h => exact fun σ' M' H' q => k σ' M' H' (e.trans q)
  | exc c fs r h => exact fun cls dx σ' M' H' q => k cls dx σ' M' H' (e.trans q)
  | no => exact k
theorem Sv.step (gk : Gk G) (s : Sv G M0 H0 r h M σ H) (e : Ext M H M1 H1) (rl : RL G h1 M1 H1) : Sv G M0 H0 r h1 M1 σ H1 := ⟨s.ent.trans e, rl, s.re.ext gk s.rl e, s.own⟩
theorem oneS (gk : Gk G) {α' β' : Type} {Rel' : Mp → Hp → α' → β' → Prop} {m : Res α'} {f : α' → Hh → Out} {R : β' → Hp → Prop} (s : Sv G M0 H0 r h M σ H) (k : KO G Wx M0 H0 M H Dn (m.st r f))
    (c : ∀ a b h1 M1 H1, Ext M H M1 H1 → Sv G M0 H0 r h1 M1 σ H1 → Rel' M1 H1 a b → KO G Wx M0 H0 M1 H1 Dn (f a h1) → R b H1) : KG Rel' G Wx σ M H R m := by
  cases m with
  | no => exact k
  | exc x fs h' => exact fun cls dx M' H' e rl rx => k cls dx σ M' H' (e.kp s.rl) (s.step gk e rl) rx
  | ok d h' => exact fun v M' H' e rl q => c d v h' M' H' e (s.step gk e rl) q (k.back (e.kp s.rl))
end
def tSm (G : Gx) (Wx : WX) (sem : Rho → Hh → Out) : TS := fun Dn σ H => ∃ M0 H0 r h M, Sv G M0 H0 r h M σ H ∧ KO G Wx M0 H0 M H Dn (sem r h)
structure Sm where
  sem : Rho → Hh → Out
  ok : Ck → Stmt → Bool
  need : Tb → Prop
  snd : ∀ {X : Cx} {G : Gx} {ck : Ck} {k : Nat} {Wx : WX} {a : Stmt}, Cok X G ck k Wx → ck.sc.kind = .function → ok ck a = true → need (tbOf X G k) → PS X a (tSm G Wx sem)
theorem PS.imp {X : Cx} {a : Stmt} {t t' : TS} (h : PS X a t) (i : ∀ Dn σ H, t' Dn σ H → t Dn σ H) : PS X a t' := ⟨fun pins s σ H Dn I q => h.run pins s σ H Dn I (i _ _ _ q)⟩
theorem PSs.imp {X : Cx} {a : List Stmt} {t t' : TS} (h : PSs X a t) (i : ∀ Dn σ H, t' Dn σ H → t Dn σ H) : PSs X a t' := ⟨fun pins s σ H Dn I q => h.run pins s σ H Dn I (i _ _ _ q)⟩

/-! ### blocks -/
inductive Si where
  | s (x : Sm)
  | frz (i : Nat)
  | kill (l : List Nat)
def frzR (i : Nat) (r : Rho) : Rho := match r[i]? with
  | some (.ow d) => r.set i (.pl d)
  | _ => r
def killR : List Nat → Rho → Rho
  | [], r => r
  | i :: l, r => killR l (r.set i .un)
def Out.then (o : Out) (f : Rho → Hh → Out) : Out := match o with
  | .nx r h => f r h
  | o => o
@[simp] theorem then_nx {r : Rho} {h : Hh} {f : Rho → Hh → Out} : (Out.nx r h).then f = f r h := rfl
@[simp] theorem then_rt {d : D} {h : Hh} {f : Rho → Hh → Out} : (Out.rt d h).then f = .rt d h := rfl
@[simp] theorem then_bk {r : Rho} {h : Hh} {f : Rho → Hh → Out} : (Out.bk r h).then f = .bk r h := rfl
@[simp] theorem then_ct {r : Rho} {h : Hh} {f : Rho → Hh → Out} : (Out.ct r h).then f = .ct r h := rfl
@[simp] theorem then_exc {c : Nat} {fs : List (Nat × D)} {r : Rho} {h : Hh} {f : Rho → Hh → Out} : (Out.exc c fs r h).then f = .exc c fs r h := rfl
@[simp] theorem then_no {f : Rho → Hh → Out} : (Out.no).then f = .no := rfl
def semSs : List Si → Rho → Hh → Out
  | [], r, h => .nx r h
  | .s x :: l, r, h => (x.sem r h).then (semSs l)
  | .frz i :: l, r, h => semSs l (frzR i r) h
  | .kill ks :: l, r, h => semSs l (killR ks r) h
def okSs : List Si → Ck → List Stmt → Bool
  | [], _, st => st.isEmpty
  | .s x :: l, ck, st => match st with
    | a :: b => x.ok ck a && okSs l ck b
    | [] => false
  | .frz _ :: l, ck, st => okSs l ck st
  | .kill _ :: l, ck, st => okSs l ck st
def needSs : List Si → Tb → Prop
  | [], _ => True
  | .s x :: l, t => x.need t ∧ needSs l t
  | .frz _ :: l, t => needSs l t
  | .kill _ :: l, t => needSs l t
section
variable {G : Gx} {M0 M : Mp} {H0 H : Hp} {r : Rho} {h : Hh} {σ : St}
theorem Sv.kill (s : Sv G M0 H0 r h M σ H) : ∀ (l : List Nat), Sv G M0 H0 (killR l r) h M σ H := by
  intro l
  induction l generalizing r with
  | nil => exact s
  | cons i l ih =>
    refine ih ⟨s.ent, s.rl, s.re.kill, fun j d a q1 q2 => ?_⟩
    by_cases z : i = j
    · subst z
      by_cases hi : i < r.length
      · rw [List.getElem?_set_self hi] at q1; cases q1
      · rw [List.getElem?_eq_none (by simpa using hi)] at q1; cases q1
    · rw [List.getElem?_set_ne z] at q1
      exact s.own j d a q1 q2
theorem Sv.frz (gk : Gk G) (s : Sv G M0 H0 r h M σ H) (i : Nat) : ∃ M', Keep M H M' H ∧ Sv G M0 H0 (frzR i r) h M' σ H := by
  unfold frzR
  split
  · rename_i d e
    obtain ⟨a, h1, ro, n, nf⟩ := s.re.ow i d e
    obtain ⟨u, q, y⟩ := ro.some
    have kp : Keep M H (M.fr a) H := ⟨fun b z => ⟨.inl z, fun _ w => w⟩, fun _ _ w => w⟩
    have hi : i < r.length := (List.getElem?_eq_some_iff.mp e).1
    refine ⟨M.fr a, kp, ⟨s.ent.adF (s.own i d a e h1), s.rl.adoptF gk n q y, ⟨by simp [s.re.len], fun j d' q' => ?_, fun j d' q' => ?_, fun j k d' e' b q1 q2 s1 s2 => ?_⟩, fun j d' b q1 q2 => ?_⟩⟩
    · by_cases z : i = j
      · subst z
        rw [List.getElem?_set_self hi] at q'
        cases q'
        exact ⟨_, h1, ro.fz gk⟩
      · rw [List.getElem?_set_ne z] at q'
        obtain ⟨v, h3, h4⟩ := s.re.pl j d' q'
        exact ⟨v, h3, h4.keep gk kp⟩
    · by_cases z : i = j
      · subst z
        rw [List.getElem?_set_self hi] at q'
        cases q'
      · rw [List.getElem?_set_ne z] at q'
        obtain ⟨b, h3, h4, h5, h6⟩ := s.re.ow j d' q'
        refine ⟨b, h3, h4.keep gk kp fun _ w => w, h5, fun z' => ?_⟩
        rcases z' with z' | z'
        · exact h6 z'
        · subst z'; exact z (s.re.one i j d d' b e q' h1 h3)
    · by_cases z : i = j
      · subst z; rw [List.getElem?_set_self hi] at q1; cases q1
      by_cases w : i = k
      · subst w; rw [List.getElem?_set_self hi] at q2; cases q2
      rw [List.getElem?_set_ne z] at q1
      rw [List.getElem?_set_ne w] at q2
      exact s.re.one j k d' e' b q1 q2 s1 s2
    · by_cases z : i = j
      · subst z; rw [List.getElem?_set_self hi] at q1; cases q1
      · rw [List.getElem?_set_ne z] at q1
        exact s.own j d' b q1 q2
  · exact ⟨M, Keep.refl, s⟩
end
theorem ss_ext {G : Gx} {Wx : WX} {M0 M : Mp} {H0 H : Hp} {Dn : Ends} {o : Out} {f : Rho → Hh → Out} (k : KO G Wx M0 H0 M H Dn (o.then f)) : KO G Wx M0 H0 M H { Dn with nx := fun σ' H' => tSm G Wx f Dn σ' H' } o := by
  cases o with
  | nx r h => exact fun σ' M' H' e s => ⟨M0, H0, r, h, M', s, KO.back e k⟩
  | rt d h => exact k
  | bk r h => exact k
  | ct r h => exact k
  | exc c fs r h => exact k
  | no => exact k
theorem sndSs : ∀ (l : List Si) {X : Cx} {G : Gx} {ck : Ck} {k : Nat} {Wx : WX} {st : List Stmt}, Cok X G ck k Wx → ck.sc.kind = .function → okSs l ck st = true → needSs l (tbOf X G k) → PSs X st (tSm G Wx (semSs l))
  | [], X, G, ck, k, Wx, st, C, hk, h, n => by
    cases st with
    | cons a b => simp [okSs] at h
    | nil => exact PSs.imp pss_nil fun Dn σ H ⟨M0, H0, r, hh, M, s, k⟩ => k σ M H Keep.refl s
  | .s x :: l, X, G, ck, k, Wx, st, C, hk, h, n => by
    cases st with
    | nil => simp [okSs] at h
    | cons a b =>
      simp only [okSs, Bool.and_eq_true] at h
      exact PSs.imp (pss_cons (x.snd C hk h.1 n.1) (sndSs l C hk h.2 n.2)) fun Dn σ H ⟨M0, H0, r, hh, M, s, k⟩ => ⟨M0, H0, r, hh, M, s, ss_ext k⟩
  | .frz i :: l, X, G, ck, k, Wx, st, C, hk, h, n => by
    refine PSs.imp (sndSs l C hk (by simpa [okSs] using h) n) fun Dn σ H ⟨M0, H0, r, hh, M, s, k⟩ => ?_
    obtain ⟨M', e, s'⟩ := s.frz C.gk i
    exact ⟨M0, H0, frzR i r, hh, M', s', KO.back e k⟩
  | .kill ks :: l, X, G, ck, k, Wx, st, C, hk, h, n => PSs.imp (sndSs l C hk (by simpa [okSs] using h) n) fun Dn σ H ⟨M0, H0, r, hh, M, s, k⟩ => ⟨M0, H0, killR ks r, hh, M, s.kill ks, k⟩
end Pf

set_option Elab.async false
set_option linter.all false
set_option maxRecDepth 100000
/-! ## The statements -/
namespace Pf
open PySem L2
/-- is the value a comprehension that the machine stores by itself -/
def swLc (sc : Scope) (v tg : Expr) : Bool :=
  match v with
  | .ListComp _ _ s p | .SetComp _ _ s p | .DictComp _ _ _ s p => (match tg with
    | .Name t pos => sc.names.lookup t == some .local && pos.line == p.line && !(s.names.any fun (n, k) => n == t && (k == .local || k == .cell))
    | _ => false)
  | _ => false
theorem swLc_ok {env : Env} {sc : Scope} {v tg : Expr} {l : Nat} (hs : env.scope = sc) (hk : sc.kind = .function) : swapsWithSole [tg] v l env = pure (swLc sc v tg) := by
  have hb : env.blockKind = .function := by unfold Env.blockKind; rw [hs, hk]; rfl
  show swapsWith v (some tg) l env = _
  unfold swapsWith swLc
  cases v <;> first | rfl | (cases tg <;> first | rfl | (simp only [hb, Env.kindOf, hs]; rfl))
/-- are the names of a = .. stored from the right -/
def swSt (sc : Scope) (tg v : Expr) : Option (Option (List Str)) :=
  match tg, v with
  | .Tuple ts _ _, .Tuple vs _ _ =>
    if !(ts.length == 2 || ts.length == 3) || vs.length != ts.length then some none else
    if (vs.any fun | .Starred .. => true | _ => false) then some none else
    let line := (ts.head?.map (·.pos.line)).getD 0
    let names := ts.filterMap fun
      | .Name id pos => if sc.names.lookup id == some .local && pos.line == line then some id else none
      | _ => none
    if names.length != ts.length || names.eraseDups.length != names.length then some none else
    if vs.all (foldedForSure 8) then some none else
    if vs.all (constantsAlone 8) then none else some (some names)
  | .List _ _, .Tuple _ _ _ => none
  | _, _ => some none
theorem swSt_ok {env : Env} {sc : Scope} {v tg : Expr} {r : Option (List Str)} (hs : env.scope = sc) (hk : sc.kind = .function) (h : swSt sc tg v = some r) : swappedStores [tg] v env = pure r := by
  have hb : env.blockKind = .function := by unfold Env.blockKind; rw [hs, hk]; rfl
  have key : ∀ {c : Bool} {A : Option (Option (List Str))} {B : Sem (Option (List Str))}, (if c = true then some none else A) = some r → (A = some r → B = pure r) → (if c = true then (pure none : Sem (Option (List Str))) else B) = pure r := by
    intro c A B h k
    cases c with
    | true => simp at h; subst h; rfl
    | false => simp at h; simpa using k h
  unfold swSt at h
  split at h
  · unfold swappedStores
    simp only [hb, Env.kindOf, hs]
    rw [show (ScopeKind.function != ScopeKind.function) = false from rfl, Bool.or_false]
    refine key h fun h => key h fun h => key h fun h => key h fun h => ?_
    split at h
    · cases h
    · rename_i hc
      cases h
      rw [if_neg hc]
      rfl
  · cases h
  · cases h
    unfold swappedStores
    rename_i h1 h2
    cases tg <;> first | rfl | (cases v <;> first | rfl | exact (h1 _ _ _ _ _ _ rfl rfl).elim | exact (h2 _ _ _ _ _ rfl rfl).elim)

def notComp : Expr → Bool
  | .ListComp _ _ _ _ => false | .SetComp _ _ _ _ => false | .DictComp _ _ _ _ _ => false
  | _ => true
section
variable {G : Gx} {M0 M M1 : Mp} {H0 H H1 : Hp} {r : Rho} {h : Hh} {σ : St} {a : Addr}
theorem Sv.set (s : Sv G M0 H0 r h M σ H) {i : Nat} {d : D} {v : V} (rv : RV G M H d v) : Sv G M0 H0 (r.set i (.pl d)) h M (σ.set i (some v)) H := by
  refine ⟨s.ent, s.rl, s.re.set rv, fun j e a q1 q2 => ?_⟩
  by_cases z : i = j
  · subst z
    by_cases hi : i < r.length
    · rw [List.getElem?_set_self hi] at q1; cases q1
    · rw [List.getElem?_eq_none (by simpa using hi)] at q1; cases q1
  · rw [List.getElem?_set_ne z] at q1 q2
    exact s.own j e a q1 q2
/-- names are set by a target -/
theorem Sv.put {t : Tg} {d : D} {r' : Rho} {σ' : St} (s : Sv G M0 H0 r h M σ H) (e : Tg.put t d r = some r') (re : RE G M H r' σ') (si : SetIn (Tg.sl t) σ σ') : Sv G M0 H0 r' h M σ' H := by
  have key : (∀ (t : Tg) (d : D) (r r' : Rho), Tg.put t d r = some r' → ∀ (j : Nat) (e : D), r'[j]? = some (Sl.ow e) → j ∉ Tg.sl t ∧ r[j]? = some (Sl.ow e)) := by
    have both : ∀ (n : Nat), (∀ (t : Tg), sizeOf t ≤ n → ∀ (d : D) (r r' : Rho), Tg.put t d r = some r' → ∀ (j : Nat) (e : D), r'[j]? = some (Sl.ow e) → j ∉ Tg.sl t ∧ r[j]? = some (Sl.ow e)) ∧ (∀ (ts : List Tg), sizeOf ts ≤ n → ∀ (ds : List D) (r r' : Rho), Tg.puts ts ds r = some r' → ∀ (j : Nat) (e : D), r'[j]? = some (Sl.ow e) → j ∉ Tg.sls ts ∧ r[j]? = some (Sl.ow e)) := by
      intro n
      induction n with
      | zero => exact ⟨fun t ht => by cases t <;> simp at ht, fun ts ht => by cases ts <;> simp at ht⟩
      | succ n ih =>
        refine ⟨fun t ht d r r' e j f q => ?_, fun ts ht ds r r' e j f q => ?_⟩
        · cases t with
          | n i =>
            simp only [Tg.put, Option.some.injEq] at e
            subst e
            by_cases z : i = j
            · subst z
              by_cases hi : i < r.length
              · rw [List.getElem?_set_self hi] at q; cases q
              · rw [List.getElem?_eq_none (by simpa using hi)] at q; cases q
            · rw [List.getElem?_set_ne z] at q
              exact ⟨by simp [Tg.sl, Ne.symm z], q⟩
          | tu ts =>
            unfold Tg.put at e
            split at e
            · split at e
              · have := ih.2 ts (by simp at ht; omega) _ _ _ e j f q
                exact ⟨by unfold Tg.sl; exact this.1, this.2⟩
              · cases e
            · cases e
        · cases ts with
          | nil =>
            unfold Tg.puts at e
            split at e
            · cases e; exact ⟨by simp [Tg.sls], q⟩
            · cases e
          | cons t ts =>
            unfold Tg.puts at e
            split at e
            · obtain ⟨r2, e1, e2⟩ := Option.bind_eq_some_iff.mp e
              have h1 := ih.2 ts (by simp at ht; omega) _ _ _ e2 j f q
              have h2 := ih.1 t (by simp at ht; omega) _ _ _ e1 j f h1.2
              exact ⟨by simp [Tg.sls, h1.1, h2.1], h2.2⟩
            · cases e
    exact fun t => (both (sizeOf t)).1 t (Nat.le_refl _)
  refine ⟨s.ent, s.rl, re, fun j f a q1 q2 => ?_⟩
  obtain ⟨h1, h2⟩ := key t d r r' e j f q1
  rw [si.2 j h1] at q2
  exact s.own j f a h2 q2
/-- a name gets a new thing of its own -/
theorem Sv.setO (s : Sv G M0 H0 r h M σ H) {i : Nat} {d : D} (ro : RO G M H a d) (n : a ∉ M.bs) (nf : ¬ M.F a) (hn : H0 a = none) (apart : ∀ (j : Nat) (e : D), j ≠ i → r[j]? = some (Sl.ow e) → σ[j]? ≠ some (some (V.ref a))) : Sv G M0 H0 (r.set i (.ow d)) h M (σ.set i (some (.ref a))) H := by
  refine ⟨s.ent, s.rl, ⟨by simp [s.re.len], fun j e q => ?_, fun j e q => ?_, fun j k d' e' b q1 q2 s1 s2 => ?_⟩, fun j e b q1 q2 => ?_⟩
  · by_cases z : i = j
    · subst z
      by_cases hi : i < r.length
      · rw [List.getElem?_set_self hi] at q; cases q
      · rw [List.getElem?_eq_none (by simpa using hi)] at q; cases q
    · rw [List.getElem?_set_ne z] at q ⊢
      exact s.re.pl j e q
  · by_cases z : i = j
    · subst z
      by_cases hi : i < r.length
      · rw [List.getElem?_set_self hi] at q
        cases q
        exact ⟨a, by rw [List.getElem?_set_self (by rw [← s.re.len]; exact hi)], ro, n, nf⟩
      · rw [List.getElem?_eq_none (by simpa using hi)] at q; cases q
    · rw [List.getElem?_set_ne z] at q ⊢
      exact s.re.ow j e q
  · by_cases z : i = j
    · by_cases w : i = k
      · exact z.symm.trans w
      · subst z
        by_cases hi : i < σ.length
        · rw [List.getElem?_set_self hi] at s1
          cases s1
          rw [List.getElem?_set_ne w] at q2 s2
          exact absurd s2 (apart k e' (Ne.symm w) q2)
        · rw [List.getElem?_eq_none (by simpa using hi)] at s1; cases s1
    · by_cases w : i = k
      · subst w
        by_cases hi : i < σ.length
        · rw [List.getElem?_set_self hi] at s2
          cases s2
          rw [List.getElem?_set_ne z] at q1 s1
          exact absurd s1 (apart j d' (Ne.symm z) q1)
        · rw [List.getElem?_eq_none (by simpa using hi)] at s2; cases s2
      · rw [List.getElem?_set_ne z] at q1 s1
        rw [List.getElem?_set_ne w] at q2 s2
        exact s.re.one j k d' e' b q1 q2 s1 s2
  · by_cases z : i = j
    · subst z
      by_cases hi : i < σ.length
      · rw [List.getElem?_set_self hi] at q2; cases q2; exact hn
      · rw [List.getElem?_eq_none (by simpa using hi)] at q2; cases q2
    · rw [List.getElem?_set_ne z] at q1 q2
      exact s.own j e b q1 q2
/-- a new thing stands apart from all that names own -/
theorem Sv.apart (s : Sv G M0 H0 r h M σ H) (ha : H a = none) (j : Nat) (e : D) (q : r[j]? = some (Sl.ow e)) : σ[j]? ≠ some (some (V.ref a)) := fun z => by
  obtain ⟨b, h1, ro, _⟩ := s.re.ow j e q
  rw [z] at h1; cases h1
  obtain ⟨u, q1, _⟩ := ro.some
  rw [ha] at q1; cases q1
/-- what a name owns is changed -/
theorem Sv.write (gk : Gk G) (s : Sv G M0 H0 r h M σ H) {j : Nat} {d d' : D} {o : HO} (q : r[j]? = some (Sl.ow d)) (q2 : σ[j]? = some (some (V.ref a))) (ro : RO G M (upd H a o) a d') : Keep M H M (upd H a o) ∧ Sv G M0 H0 (r.set j (.ow d')) h M σ (upd H a o) := by
  obtain ⟨b, h1, ro0, n, nf⟩ := s.re.ow j d q
  rw [q2] at h1; cases h1
  have hn := s.own j d a q q2
  have kp : Keep M H M (upd H a o) := Keep.poke nf
  have hj : j < r.length := (List.getElem?_eq_some_iff.mp q).1
  refine ⟨kp, ⟨kn_up (h := h) gk s.ent hn, s.rl.poke gk n nf, ⟨by simp [s.re.len], fun i e p => ?_, fun i e p => ?_, fun i k d' e' b q1 q2' s1 s2 => ?_⟩, fun i e b p1 p2 => ?_⟩⟩
  · by_cases z : j = i
    · subst z; rw [List.getElem?_set_self hj] at p; cases p
    · rw [List.getElem?_set_ne z] at p
      obtain ⟨v, h3, h4⟩ := s.re.pl i e p
      exact ⟨v, h3, h4.keep gk kp⟩
  · by_cases z : j = i
    · subst z
      rw [List.getElem?_set_self hj] at p
      cases p
      exact ⟨a, q2, ro, n, nf⟩
    · rw [List.getElem?_set_ne z] at p
      obtain ⟨b, h3, h4, h5, h6⟩ := s.re.ow i e p
      have hne : b ≠ a := fun w => by subst w; exact z (s.re.one j i d e b q p q2 h3)
      exact ⟨b, h3, h4.keep gk kp fun w x => by rw [upd_ne hne]; exact x, h5, h6⟩
  · have f : ∀ {i : Nat} {e : D}, (r.set j (.ow d'))[i]? = some (Sl.ow e) → ∃ e, r[i]? = some (Sl.ow e) := fun {i e} p => by
      by_cases z : j = i
      · subst z; exact ⟨d, q⟩
      · rw [List.getElem?_set_ne z] at p; exact ⟨e, p⟩
    have g : ∀ {i : Nat} {e : D} {x : Sl}, (r.set j x)[i]? = some (Sl.ow e) → ∃ e, r[i]? = some (Sl.ow e) := fun {i e x} p => by
      by_cases z : j = i
      · subst z; exact ⟨d, q⟩
      · rw [List.getElem?_set_ne z] at p; exact ⟨e, p⟩
    obtain ⟨e1, p1⟩ := g q1
    obtain ⟨e2, p2⟩ := g q2'
    exact s.re.one i k e1 e2 b p1 p2 s1 s2
  · by_cases z : j = i
    · subst z; rw [q2] at p2; cases p2; exact hn
    · rw [List.getElem?_set_ne z] at p1
      exact s.own i e b p1 p2
end

/-! x = e -/
def asgB (t : Tg) (x : Ck → Expr → Bool) (ck : Ck) (st : Stmt) : Bool := match st with
  | .Assign [tg] v _ => Tg.ok ck t tg && !swLc ck.sc v tg && x ck v && decide (swSt ck.sc tg v = some none)
  | _ => false
theorem asgB_some {t : Tg} {x : Ck → Expr → Bool} {ck : Ck} {st : Stmt} (h : asgB t x ck st = true) : ∃ tg v p, st = .Assign [tg] v p ∧ Tg.ok ck t tg = true ∧ swLc ck.sc v tg = false ∧ x ck v = true ∧ swSt ck.sc tg v = some none := by
  unfold asgB at h
  split at h
  · simp only [Bool.and_eq_true, Bool.not_eq_true', decide_eq_true_eq] at h
    exact ⟨_, _, _, rfl, h.1.1.1, h.1.1.2, h.1.2, h.2⟩
  · cases h
def ofP (o : Option Rho) (h : Hh) : Out := match o with
  | some r => .nx r h
  | none => .no
@[simp] theorem ofP_some {r : Rho} {h : Hh} : ofP (some r) h = .nx r h := rfl
theorem tgt_plain {ck : Ck} {t : Tg} {tg : Expr} (ht : Tg.ok ck t tg = true) : (∃ x p, tg = .Name x p) ∨ ∃ es k p, tg = .Tuple es k p := by
  cases t <;> cases tg <;> first | (exact .inl ⟨_, _, rfl⟩) | (exact .inr ⟨_, _, _, rfl⟩) | (simp [Tg.ok] at ht)
def Sm.asg (t : Tg) (x : Xp) : Sm where
  sem r h := (x.sem r h).st r fun d h1 => ofP (t.put d r) h1
  ok := asgB t x.ok
  need := x.need
  snd {X G ck k Wx a} C hk h n := by
    obtain ⟨tg, v, p, rfl, ht, h1, hx, h2⟩ := asgB_some h
    refine PS.imp (ps_asg (x.snd C hx n) (sg_T C t ht) (by rw [swLc_ok C.hsc hk, h1]) (swSt_ok C.hsc hk h2) ?_) fun Dn σ H ⟨M0, H0, r, hh, M, s, k⟩ => ⟨r, hh, M, s.rl, s.re, oneS C.gk s k fun d v h1 M1 H1 e1 s1 rv k1 => ?_⟩
    · rcases tgt_plain ht with ⟨x, p, rfl⟩ | ⟨es, k, p, rfl⟩ <;> rfl
    · cases e : t.put d r with
      | none => rw [e] at k1; exact k1.elim
      | some r' =>
        rw [e] at k1
        exact ⟨d, r, h1, M1, r', s1.rl, s1.re, rv, e, fun σ' re' si => k1 σ' M1 H1 Keep.refl (s1.put e re' si)⟩
/-- a name gets a new thing of its own -/
def Sm.asgO (i : Nat) (x : Xn) : Sm where
  sem r h := (x.sem r h).st r fun d h1 => .nx (r.set i (.ow d)) h1
  ok := asgB (.n i) x.ok
  need := x.need
  snd {X G ck k Wx a} C hk h n := by
    obtain ⟨tg, v, p, rfl, ht, h1, hx, h2⟩ := asgB_some h
    cases tg <;> simp only [Tg.ok, Bool.false_eq_true] at ht
    simp only [Bool.and_eq_true, atB, decide_eq_true_eq] at ht
    obtain ⟨s1, s2⟩ := st_of C ht.2
    refine PS.imp (ps_asg (x.snd C hx n) (pg_name C.nd (by rw [C.hN]; exact ht.1) s1 s2) (by rw [swLc_ok C.hsc hk, h1]) (swSt_ok C.hsc hk h2) rfl) fun Dn σ H ⟨M0, H0, r, hh, M, s, k⟩ => ⟨r, hh, M, s.rl, s.re, oneS C.gk s k fun d v h1 M1 H1 e1 s1 rv k1 => ?_⟩
    obtain ⟨a, rfl, ro, na, nf, hn⟩ := rv
    exact k1 _ M1 H1 Keep.refl (s1.setO ro na nf (s.ent.trk _ hn) fun j e _ q => s.apart hn j e q)
/-! x = [..] on one line: the machine stores by itself -/
def lcStB (i : Nat) (x : Ck → Expr → Bool) (ck : Ck) (st : Stmt) : Bool := match st with
  | .Assign [.Name y p] v _ => atB ck i y && stB ck y && swLc ck.sc v (.Name y p) && x ck v
  | _ => false
theorem ps_lc {X : Cx} {G : Gx} {ck : Ck} {k : Nat} {Wx : WX} {st : Stmt} {i : Nat} {e : Xp} {t : Tg} {it : Ib} {ifs : Option Xt} {own : List (Str × Nat)} (C : Cok X G ck k Wx) (hk : ck.sc.kind = .function) (h : lcStB i (lcB e t it ifs own) ck st = true) (n : (Xn.lc e t it ifs own).need (tbOf X G k)) :
    PS X st (fun Dn σ H => tN G Wx (lcSem e t it ifs own) σ H fun v H1 => Dn.nx (σ.set i (some v)) H1) := by
  unfold lcStB at h
  split at h
  · simp only [Bool.and_eq_true, atB, decide_eq_true_eq] at h
    obtain ⟨⟨⟨ha, hst⟩, hsw⟩, hl⟩ := h
    obtain ⟨x, tg, iter, cs, scope, p, rfl, h1, h2, h3, h4, h5, h6, h7⟩ := lcB_some hl
    rename_i y py ps
    have sw := swLc_ok (l := ps.line) (v := .ListComp x [⟨tg, iter, cs, 0⟩] scope p) (tg := .Name y py) C.hsc hk
    rw [hsw] at sw
    have hyl : X.env.scope.names.lookup y = some .local := by
      unfold swLc at hsw
      simp only [Bool.and_eq_true, beq_iff_eq] at hsw
      rw [C.hsc]
      exact hsw.1.1
    exact PS.imp (ps_setLc C.calm C.nd (by rw [C.hN]; exact ha) hyl sw (it.snd C h7 h3 n.2.1) (blkOk_by (by rw [C.hN, C.hsc]; exact h1))
      (fun s H Cc cl fp => sg_T (C.blk (s := s) (H := H) (scope := scope) (Cc := Cc) (cl := cl) (fp := fp)) t h4)
      (fun s H Cc cl fp => sndT ifs (C.blk (s := s) (H := H) (scope := scope) (Cc := Cc) (cl := cl) (fp := fp)) h5 n.2.2)
      (fun s H Cc cl fp => e.snd (C.blk (s := s) (H := H) (scope := scope) (Cc := Cc) (cl := cl) (fp := fp)) h6 n.1) (by
        have h4 := it.set _ _ h3
        intro v
        cases iter <;> first | rfl | (simp [notSet] at h4))) fun Dn σ H q => lc_read C h2 σ H _ q
  · cases h
def Sm.asgLc (i : Nat) (e : Xp) (t : Tg) (it : Ib) (ifs : Option Xt) (own : List (Str × Nat)) : Sm where
  sem r h := (lcSem e t it ifs own r h).st r fun d h1 => .nx (r.set i (.pl d)) h1
  ok := lcStB i (lcB e t it ifs own)
  need := (Xn.lc e t it ifs own).need
  snd {X G ck k Wx a} C hk h n := PS.imp (ps_lc C hk h n) fun Dn σ H ⟨M0, H0, r, hh, M, s, k⟩ => ⟨r, hh, M, s.rl, s.re, kn_fz C.gk (oneS C.gk s k fun d v h1 M1 H1 e1 s1 rv k1 => k1 _ M1 H1 Keep.refl (s1.set rv))⟩
def Sm.asgOLc (i : Nat) (e : Xp) (t : Tg) (it : Ib) (ifs : Option Xt) (own : List (Str × Nat)) : Sm where
  sem r h := (lcSem e t it ifs own r h).st r fun d h1 => .nx (r.set i (.ow d)) h1
  ok := lcStB i (lcB e t it ifs own)
  need := (Xn.lc e t it ifs own).need
  snd {X G ck k Wx a} C hk h n := PS.imp (ps_lc C hk h n) fun Dn σ H ⟨M0, H0, r, hh, M, s, k⟩ => ⟨r, hh, M, s.rl, s.re, oneS C.gk s k fun d v h1 M1 H1 e1 s1 rv k1 => by
    obtain ⟨a, rfl, ro, na, nf, hn⟩ := rv
    exact k1 _ M1 H1 Keep.refl (s1.setO ro na nf (s.ent.trk _ hn) fun j e _ q => s.apart hn j e q)⟩
def Sm.ex (x : Xp) : Sm where
  sem r h := (x.sem r h).st r fun _ h1 => .nx r h1
  ok ck st := match st with
    | .Expr a _ => x.ok ck a && notComp a
    | _ => false
  need := x.need
  snd {X G ck k Wx a} C hk h n := by
    split at h
    · rename_i a p
      simp only [Bool.and_eq_true] at h
      refine PS.imp (ps_expr (x.snd C h.1 n) ?_) fun Dn σ H ⟨M0, H0, r, hh, M, s, k⟩ => ⟨r, hh, M, s.rl, s.re, oneS C.gk s k fun d v h1 M1 H1 e1 s1 rv k1 => k1 σ M1 H1 Keep.refl s1⟩
      have h2 := h.2
      cases a <;> first | rfl | (simp [notComp] at h2)
    · cases h
def Sm.ret (x : Xp) : Sm where
  sem r h := (x.sem r h).st r fun d h1 => .rt d h1
  ok ck st := match st with
    | .Return (some a) _ => x.ok ck a
    | _ => false
  need := x.need
  snd {X G ck k Wx a} C hk h n := by
    split at h
    · exact PS.imp (ps_ret (x.snd C h n)) fun Dn σ H ⟨M0, H0, r, hh, M, s, k⟩ => ⟨r, hh, M, s.rl, s.re, oneS C.gk s k fun d v h1 M1 H1 e1 s1 rv k1 => k1 v M1 H1 s1.ent s1.rl rv⟩
    · cases h
def Sm.retN : Sm where
  sem r h := .rt .non h
  ok ck st := match st with
    | .Return none _ => true
    | _ => false
  need _ := True
  snd {X G ck k Wx a} C hk h n := by
    split at h
    · exact PS.imp ps_retN fun Dn σ H ⟨M0, H0, r, hh, M, s, k⟩ => k _ M H s.ent s.rl .non
    · cases h
def Sm.pass : Sm where
  sem r h := .nx r h
  ok ck st := match st with
    | .Pass _ => true
    | _ => false
  need _ := True
  snd {X G ck k Wx a} C hk h n := by
    split at h
    · exact PS.imp ps_pass fun Dn σ H ⟨M0, H0, r, hh, M, s, k⟩ => k σ M H Keep.refl s
    · cases h
def Sm.brk : Sm where
  sem r h := .bk r h
  ok ck st := match st with
    | .Break _ => true
    | _ => false
  need _ := True
  snd {X G ck k Wx a} C hk h n := by
    split at h
    · exact PS.imp ps_break fun Dn σ H ⟨M0, H0, r, hh, M, s, k⟩ => k σ M H Keep.refl s
    · cases h
def Sm.cont : Sm where
  sem r h := .ct r h
  ok ck st := match st with
    | .Continue _ => true
    | _ => false
  need _ := True
  snd {X G ck k Wx a} C hk h n := by
    split at h
    · exact PS.imp ps_continue fun Dn σ H ⟨M0, H0, r, hh, M, s, k⟩ => k σ M H Keep.refl s
    · cases h
/-- never reached -/
def Sm.nev : Sm where
  sem _ _ := .no
  ok _ _ := true
  need _ := True
  snd {X G ck k Wx a} C hk h n := PS.imp ps_never fun Dn σ H ⟨M0, H0, r, hh, M, s, k⟩ => k
/-- a text alone -/
def Sm.doc : Sm where
  sem r h := .nx r h
  ok ck st := match st with
    | .Expr (.Constant (.str _) _ _) _ => true
    | _ => false
  need _ := True
  snd {X G ck k Wx a} C hk h n := by
    split at h
    · exact PS.imp ps_doc fun Dn σ H ⟨M0, H0, r, hh, M, s, k⟩ => k σ M H Keep.refl s
    · cases h
def Sm.ife (t : Xt) (a b : List Si) : Sm where
  sem r h := (t.sem r h).st r fun c h1 => if c then semSs a r h1 else semSs b r h1
  ok ck st := match st with
    | .If c x y _ => t.ok ck c && okSs a ck x && okSs b ck y
    | _ => false
  need z := t.need z ∧ needSs a z ∧ needSs b z
  snd {X G ck k Wx st} C hk h n := by
    split at h
    · simp only [Bool.and_eq_true] at h
      refine PS.imp (ps_if (t.snd C h.1.1 n.1) (sndSs a C hk h.1.2 n.2.1) (sndSs b C hk h.2 n.2.2)) fun Dn σ H ⟨M0, H0, r, hh, M, s, k⟩ => ⟨r, hh, M, s.rl, s.re, oneS C.gk s k fun d v h1 M1 H1 e1 s1 rv k1 => ?_⟩
      subst rv
      cases d with
      | true => exact ⟨M0, H0, r, h1, M1, s1, k1⟩
      | false => exact ⟨M0, H0, r, h1, M1, s1, k1⟩
    · cases h
end Pf

set_option Elab.async false
set_option linter.all false
set_option maxRecDepth 100000
/-! ## Loops, things that names own -/
namespace Pf
open PySem L2
def forGo (t : Tg) (bd : Rho → Hh → Out) : List D → Rho → Hh → Out
  | [], r, h => .nx r h
  | x :: xs, r, h => match t.put x r with
    | none => .no
    | some r2 => match bd r2 h with
      | .nx r3 h3 => forGo t bd xs r3 h3
      | .ct r3 h3 => forGo t bd xs r3 h3
      | .bk r3 h3 => .nx r3 h3
      | o => o
def Sm.for_ (t : Tg) (it : Ib) (body : List Si) : Sm where
  sem r h := (it.sem r h).st r fun xs h1 => forGo t (semSs body) xs r h1
  ok ck st := match st with
    | .For tg i b [] _ => Tg.ok ck t tg && it.tgt tg && it.ok ck i && okSs body ck b
    | _ => false
  need z := it.need z ∧ needSs body z
  snd {X G ck k Wx st} C hk h n := by
    split at h
    · rename_i tg i b p
      simp only [Bool.and_eq_true] at h
      obtain ⟨⟨⟨ht, hg⟩, hi⟩, hb⟩ := h
      refine PS.imp (ps_for C.own C.calm (it.snd C hg hi n.1) (sg_T C t ht) (sndSs body C hk hb n.2) (by
        have hn := it.set _ _ hi
        intro v
        cases i <;> first | rfl | (simp [notSet] at hn))) fun Dn σ H ⟨M0, H0, r, hh, M, s, k⟩ => ⟨r, hh, M, s.rl, s.re, ?_⟩
      dsimp only at k
      cases q0 : it.sem r hh with
      | no => rw [q0] at k; exact k
      | exc c fs h' => rw [q0] at k; exact fun cls dx M' H' e rl rx => k cls dx σ M' H' (e.kp s.rl) (s.step C.gk e rl) rx
      | ok ys hx =>
        rw [q0] at k
        simp only [st_ok] at k
        intro J M1 H1 e1 r1 ok
        refine ⟨fun i m σ' H' => m = ys.length - i ∧ i ≤ ys.length ∧ ∃ r' h' M', Keep M1 H1 M' H' ∧ Sv G M0 H0 r' h' M' σ' H' ∧ KO G Wx M0 H0 M1 H1 Dn (forGo t (semSs body) (ys.drop i) r' h'), ⟨ys.length, by simp, Nat.zero_le _, r, hx, M1, Keep.refl, s.step C.gk e1 r1, by simpa using k.back (e1.kp s.rl)⟩, ?_⟩
        rintro i m σ' H' ⟨rfl, hi', r', h', M', e2, s2, k2⟩
        have ok2 := ok h' M' H' e2 s2.rl
        by_cases hlt : i < ys.length
        · refine .inr ⟨(ok2.1 i hlt).1, fun σ4 H4 => ∃ r4 h4 M4, Keep M1 H1 M4 H4 ∧ Sv G M0 H0 r4 h4 M4 σ4 H4 ∧ KO G Wx M0 H0 M1 H1 Dn (forGo t (semSs body) (ys.drop (i + 1)) r4 h4), fun σ4 H4 q => ⟨ys.length - (i + 1), by omega, rfl, by omega, q⟩, fun y H3 hy => ?_⟩
          obtain ⟨d, M3, ed, e3, r3, rv3⟩ := (ok2.1 i hlt).2 y H3 hy
          have s3 := s2.step C.gk e3 r3
          have k13 := e2.trans (e3.kp s2.rl)
          have hdrop : ys.drop i = d :: ys.drop (i + 1) := by
            rw [List.drop_eq_getElem_cons hlt]
            rw [List.getElem?_eq_getElem hlt] at ed
            cases ed; rfl
          rw [hdrop, forGo] at k2
          split at k2
          · exact k2.elim
          · rename_i r4 ep
            refine ⟨d, r', h', M3, r4, r3, s3.re, rv3, ep, fun σ4 re4 si => ⟨M0, H0, r4, h', M3, s3.put ep re4 si, ?_⟩⟩
            cases q1 : semSs body r4 h' with
            | nx r5 h5 => rw [q1] at k2; exact fun σ5 M5 H5 e5 s5 => ⟨r5, h5, M5, k13.trans e5, s5, k2⟩
            | ct r5 h5 => rw [q1] at k2; exact fun σ5 M5 H5 e5 s5 => ⟨r5, h5, M5, k13.trans e5, s5, k2⟩
            | bk r5 h5 => rw [q1] at k2; exact fun σ5 M5 H5 e5 s5 => k2 σ5 M5 H5 (k13.trans e5) s5
            | rt d5 h5 => rw [q1] at k2; exact fun v M5 H5 e5 r5 rv => k2 v M5 H5 e5 r5 rv
            | exc c fs r5 h5 => rw [q1] at k2; exact fun cls dx σ5 M5 H5 e5 s5 rx => k2 cls dx σ5 M5 H5 (k13.trans e5) s5 rx
            | no => rw [q1] at k2; exact k2
        · have ei : ys.drop i = [] := List.drop_eq_nil_iff.mpr (by omega)
          rw [ei, forGo] at k2
          exact .inl ⟨ok2.2 i (by omega), k2 σ' M' H' e2 s2⟩
    · cases h
def whGo (t : Rho → Hh → Res Bool) (bd : Rho → Hh → Out) : Nat → Rho → Hh → Out
  | 0, _, _ => .no
  | n + 1, r, h => (t r h).st r fun c h1 => if c then match bd r h1 with
      | .nx r3 h3 => whGo t bd n r3 h3
      | .ct r3 h3 => whGo t bd n r3 h3
      | .bk r3 h3 => .nx r3 h3
      | o => o
    else .nx r h1
/-- while; at most n turns -/
def Sm.whl (n : Nat) (t : Xt) (body : List Si) : Sm where
  sem r h := whGo t.sem (semSs body) n r h
  ok ck st := match st with
    | .While c b [] _ => t.ok ck c && okSs body ck b
    | _ => false
  need z := t.need z ∧ needSs body z
  snd {X G ck k Wx st} C hk h nd := by
    split at h
    · simp only [Bool.and_eq_true] at h
      refine PS.imp (ps_while C.own (t.snd C h.1 nd.1) (sndSs body C hk h.2 nd.2)) fun Dn σ H ⟨M0, H0, r, hh, M, s, k⟩ => ?_
      refine ⟨fun m σ' H' => ∃ r' h' M', Sv G M0 H0 r' h' M' σ' H' ∧ KO G Wx M0 H0 M' H' Dn (whGo t.sem (semSs body) m r' h'), ⟨n, r, hh, M, s, k⟩, ?_⟩
      rintro m σ' H' ⟨r', h', M', s2, k2⟩
      cases m with
      | zero => exact k2.elim
      | succ m =>
        rw [whGo] at k2
        refine ⟨r', h', M', s2.rl, s2.re, oneS C.gk s2 k2 fun d v h1 M1 H1 e1 s1 rv k1 => ?_⟩
        subst rv
        cases d with
        | false => exact k1 σ' M1 H1 Keep.refl s1
        | true =>
          simp only [if_true] at k1 ⊢
          refine ⟨fun σ4 H4 => ∃ r4 h4 M4, Sv G M0 H0 r4 h4 M4 σ4 H4 ∧ KO G Wx M0 H0 M4 H4 Dn (whGo t.sem (semSs body) m r4 h4), fun σ4 H4 q => ⟨m, by omega, q⟩, M0, H0, r', h1, M1, s1, ?_⟩
          cases q1 : semSs body r' h1 with
          | nx r5 h5 => rw [q1] at k1; exact fun σ5 M5 H5 e5 s5 => ⟨r5, h5, M5, s5, KO.back e5 k1⟩
          | ct r5 h5 => rw [q1] at k1; exact fun σ5 M5 H5 e5 s5 => ⟨r5, h5, M5, s5, KO.back e5 k1⟩
          | bk r5 h5 => rw [q1] at k1; exact fun σ5 M5 H5 e5 s5 => k1 σ5 M5 H5 e5 s5
          | rt d5 h5 => rw [q1] at k1; exact fun v M5 H5 e5 r5 rv => k1 v M5 H5 e5 r5 rv
          | exc c fs r5 h5 => rw [q1] at k1; exact fun cls dx σ5 M5 H5 e5 s5 rx => k1 cls dx σ5 M5 H5 e5 s5 rx
          | no => rw [q1] at k1; exact k1
    · cases h

/-! ### a, b = e, f: names with values, names with new things of their own -/
abbrev Xa := Xp ⊕ Xn
def Xa.sem : Xa → Rho → Hh → Res (Bool × D)
  | .inl x, r, h => (x.sem r h).bind fun d h1 => .ok (false, d) h1
  | .inr x, r, h => (x.sem r h).bind fun d h1 => .ok (true, d) h1
def Xa.ok : Xa → Ck → Expr → Bool
  | .inl x => x.ok
  | .inr x => x.ok
def Xa.need : Xa → Tb → Prop
  | .inl x => x.need
  | .inr x => x.need
theorem Xa.star : ∀ (x : Xa) ck a, Xa.ok x ck a = true → notStar a = true
  | .inl x => x.star
  | .inr x => x.star
def ows : List (Bool × D) → List V → List V
  | (true, _) :: l, v :: xs => v :: ows l xs
  | (false, _) :: l, _ :: xs => ows l xs
  | _, _ => []
inductive RA (Hs : Hp) (G : Gx) (M : Mp) (H : Hp) : List (Bool × D) → List V → Prop
  | nil : RA Hs G M H [] []
  | pl {d : D} {v : V} {l : List (Bool × D)} {xs : List V} : RV G M H d v → RA Hs G M H l xs → RA Hs G M H ((false, d) :: l) (v :: xs)
  | ow {d : D} {v : V} {l : List (Bool × D)} {xs : List V} : RN Hs G M H d v → v ∉ ows l xs → RA Hs G M H l xs → RA Hs G M H ((true, d) :: l) (v :: xs)
def semX : List Xa → Rho → Hh → Res (List (Bool × D))
  | [], _, h => .ok [] h
  | x :: xs, r, h => (Xa.sem x r h).bind fun d h1 => (semX xs r h1).bind fun ds h2 => .ok (d :: ds) h2
def okX : List Xa → Ck → List Expr → Bool
  | [], _, es => es.isEmpty
  | x :: xs, ck, es => match es with
    | e :: r => Xa.ok x ck e && okX xs ck r
    | [] => false
def needX : List Xa → Tb → Prop
  | [], _ => True
  | x :: xs, t => Xa.need x t ∧ needX xs t
theorem RA.ows {Hs : Hp} {G : Gx} {M : Mp} {H : Hp} : ∀ {l : List (Bool × D)} {xs : List V}, RA Hs G M H l xs → ∀ v ∈ ows l xs, ∃ a, v = .ref a ∧ Hs a = none
  | _, _, .nil, v, h => by simp [Pf.ows] at h
  | _, _, .pl _ t, v, h => t.ows v (by simpa [Pf.ows] using h)
  | _, _, .ow n _ t, v, h => by
    simp only [Pf.ows, List.mem_cons] at h
    rcases h with rfl | h
    · obtain ⟨a, rfl, _, _, _, hn⟩ := n
      exact ⟨a, rfl, hn⟩
    · exact t.ows v h
theorem RN.ext {Hs : Hp} {G : Gx} {h : Hh} {M M' : Mp} {H H' : Hp} {d : D} {v : V} (gk : Gk G) (rl : RL G h M H) (e : Ext M H M' H') (x : RN Hs G M H d v) : RN Hs G M' H' d v := by
  obtain ⟨a, rfl, ro, n, nf, hn⟩ := x
  obtain ⟨u, q, y⟩ := ro.some
  exact ⟨a, rfl, ro.ext gk rl e n, e.off q n, e.offF rl q y n nf, hn⟩
theorem RA.back {Hs Ht : Hp} {G : Gx} {M : Mp} {H : Hp} (e : ∀ b, Ht b = none → Hs b = none) : ∀ {l : List (Bool × D)} {xs : List V}, RA Ht G M H l xs → RA Hs G M H l xs
  | _, _, .nil => .nil
  | _, _, .pl r t => .pl r (t.back e)
  | _, _, .ow ⟨a, h1, h2, h3, h4, h5⟩ n t => .ow ⟨a, h1, h2, h3, h4, e a h5⟩ n (t.back e)
def tX (G : Gx) (Wx : WX) (sem : Rho → Hh → Res (List (Bool × D))) : TA := fun σ H Qv => ∃ r h M, RL G h M H ∧ RE G M H r σ ∧ KG (RA H G) G Wx σ M H Qv (sem r h)
theorem sndX : ∀ (xs : List Xa) {X : Cx} {G : Gx} {ck : Ck} {k : Nat} {Wx : WX} {es : List Expr}, Cok X G ck k Wx → okX xs ck es = true → needX xs (tbOf X G k) → PA X es (tX G Wx (semX xs))
  | [], X, G, ck, k, Wx, es, C, h, n => by
    cases es with
    | cons a b => simp [okX] at h
    | nil => exact PA.imp pa_nil fun σ H Qv ⟨r, h, M, rl, re, k⟩ => k.here rl .nil
  | .inl x :: xs, X, G, ck, k, Wx, es, C, h, n => by
    cases es with
    | nil => simp [okX] at h
    | cons a b =>
      simp only [okX, Bool.and_eq_true] at h
      refine PA.imp (pa_cons (x.snd C h.1 n.1) (sndX xs C h.2 n.2) (star_cons (Xa.star _ _ _ h.1) _)) fun σ H Qv ⟨r, h, M, rl, re, k⟩ => ⟨r, h, M, rl, re, ?_⟩
      rw [semX, Xa.sem] at k
      have k : KG (RA H G) G Wx σ M H Qv ((x.sem r h).bind fun d h1 => (semX xs r h1).bind fun ds h2 => .ok ((false, d) :: ds) h2) := by
        cases q : x.sem r h <;> rw [q] at k <;> exact k
      exact one k fun d v h1 M1 H1 e1 r1 b1 k1 => ⟨r, h1, M1, r1, re.ext C.gk rl e1, one k1 fun e u h2 M2 H2 e2 r2 b2 k2 => k2.here r2 (.pl (b1.ext C.gk r1 e2) (b2.back e1.trk))⟩
  | .inr x :: xs, X, G, ck, k, Wx, es, C, h, n => by
    cases es with
    | nil => simp [okX] at h
    | cons a b =>
      simp only [okX, Bool.and_eq_true] at h
      refine PA.imp (pa_cons (x.snd C h.1 n.1) (sndX xs C h.2 n.2) (star_cons (Xa.star _ _ _ h.1) _)) fun σ H Qv ⟨r, h, M, rl, re, k⟩ => ⟨r, h, M, rl, re, ?_⟩
      rw [semX, Xa.sem] at k
      have k : KG (RA H G) G Wx σ M H Qv ((x.sem r h).bind fun d h1 => (semX xs r h1).bind fun ds h2 => .ok ((true, d) :: ds) h2) := by
        cases q : x.sem r h <;> rw [q] at k <;> exact k
      refine one k fun d v h1 M1 H1 e1 r1 b1 k1 => ⟨r, h1, M1, r1, re.ext C.gk rl e1, one k1 fun e u h2 M2 H2 e2 r2 b2 k2 => k2.here r2 (.ow (RN.ext C.gk r1 e2 b1) (fun z => ?_) (b2.back e1.trk))⟩
      obtain ⟨b, rfl, hb⟩ := b2.ows _ z
      obtain ⟨a, ea, ro, _⟩ := b1
      cases ea
      obtain ⟨w, q, _⟩ := ro.some
      rw [hb] at q; cases q
def slOf : Bool × D → Sl
  | (false, d) => .pl d
  | (true, d) => .ow d
def setsX : List Nat → List (Bool × D) → Rho → Option Rho
  | [], [], r => some r
  | i :: is, d :: ds, r => setsX is ds (r.set i (slOf d))
  | _, _, _ => none
def setsV : List Nat → List V → St → St
  | i :: is, v :: vs, σ => setsV is vs (σ.set i (some v))
  | _, _, σ => σ
theorem Sv.setsX {G : Gx} {M0 M : Mp} {H0 H Hs : Hp} {h : Hh} : ∀ {is : List Nat} {ds : List (Bool × D)} {vs : List V} {r r' : Rho} {σ : St}, Sv G M0 H0 r h M σ H → RA Hs G M H ds vs → (∀ b, Hs b = none → H0 b = none) →
    (∀ v ∈ Pf.ows ds vs, ∀ (j : Nat) (e : D), r[j]? = some (Sl.ow e) → σ[j]? ≠ some (some v)) → Pf.setsX is ds r = some r' → Sv G M0 H0 r' h M (setsV is vs σ) H
  | [], [], _, r, r', σ, s, .nil, _, _, e => by simp only [Pf.setsX, Option.some.injEq] at e; subst e; exact s
  | [], _ :: _, _, r, r', σ, s, ra, _, _, e => by simp [Pf.setsX] at e
  | _ :: _, [], _, r, r', σ, s, ra, _, _, e => by simp [Pf.setsX] at e
  | i :: is, (false, d) :: ds, _, r, r', σ, s, .pl rv t, hb, ap, e => by
    simp only [Pf.setsX, slOf] at e
    rw [setsV]
    refine Sv.setsX (s.set rv) t hb (fun v hv j f q => ?_) e
    by_cases z : i = j
    · subst z
      by_cases hi : i < r.length
      · rw [List.getElem?_set_self hi] at q; cases q
      · rw [List.getElem?_eq_none (by simpa using hi)] at q; cases q
    · rw [List.getElem?_set_ne z] at q ⊢
      exact ap v (by simpa [Pf.ows] using hv) j f q
  | i :: is, (true, d) :: ds, _, r, r', σ, s, .ow (v := v) ⟨a, ea, ro, na, nf, hn⟩ nv t, hb, ap, e => by
    subst ea
    simp only [Pf.setsX, slOf] at e
    have hav : ∀ (j : Nat) (f : D), j ≠ i → r[j]? = some (Sl.ow f) → σ[j]? ≠ some (some (V.ref a)) := fun j f _ q => ap _ (by simp [Pf.ows]) j f q
    rw [setsV]
    refine Sv.setsX (s.setO ro na nf (hb a hn) hav) t hb (fun w hw j f q => ?_) e
    by_cases z : i = j
    · subst z
      by_cases hi : i < σ.length
      · rw [List.getElem?_set_self hi]
        intro q'
        have : w = V.ref a := (Option.some.inj (Option.some.inj q')).symm
        subst this
        exact nv hw
      · rw [List.getElem?_eq_none (by simpa using hi)]; simp
    · rw [List.getElem?_set_ne z] at q ⊢
      exact ap w (by simp [Pf.ows, hw]) j f q
theorem RA.length {Hs : Hp} {G : Gx} {M : Mp} {H : Hp} : ∀ {l : List (Bool × D)} {xs : List V}, RA Hs G M H l xs → l.length = xs.length
  | _, _, .nil => rfl
  | _, _, .pl _ t => by simp [t.length]
  | _, _, .ow _ _ t => by simp [t.length]
theorem setsX_len : ∀ {is : List Nat} {ds : List (Bool × D)} {r r' : Rho}, setsX is ds r = some r' → ds.length = is.length
  | [], [], _, _, _ => rfl
  | [], _ :: _, _, _, e => by simp [setsX] at e
  | _ :: _, [], _, _, e => by simp [setsX] at e
  | _ :: _, _ :: _, _, _, e => by
    simp only [setsX] at e
    simp [setsX_len e]
def parB (is : List Nat) (xs : List Xa) (ck : Ck) (st : Stmt) : Bool := match st with
  | .Assign [tg] v _ => (match tg, v, is with
    | .Tuple [.Name x _, .Name y _] _ _, .Tuple [u, w] _ _, [i, j] => decide (i ≠ j) && atB ck i x && atB ck j y && decide (ck.sc.names.lookup x = some .local) && decide (ck.sc.names.lookup y = some .local) && okX xs ck [u, w] && decide (swSt ck.sc tg v = some (some [x, y]))
    | .Tuple [.Name x _, .Name y _, .Name z _] _ _, .Tuple [u, w, q] _ _, [i, j, l] => decide (i ≠ j) && decide (i ≠ l) && decide (j ≠ l) && atB ck i x && atB ck j y && atB ck l z && decide (ck.sc.names.lookup x = some .local) && decide (ck.sc.names.lookup y = some .local) && decide (ck.sc.names.lookup z = some .local) && okX xs ck [u, w, q] && decide (swSt ck.sc tg v = some (some [x, y, z]))
    | _, _, _ => false)
  | _ => false
/-- a, b = e, f (two or three local names) -/
def Sm.par (is : List Nat) (xs : List Xa) : Sm where
  sem r h := (semX xs r h).st r fun ds h1 => ofP (setsX is ds r) h1
  ok := parB is xs
  need := needX xs
  snd {X G ck k Wx st} C hk h n := by
    unfold parB at h
    split at h
    · rename_i tg v p
      have fin : ∀ {M0 M M1 : Mp} {H0 H H1 : Hp} {r : Rho} {hh h1 : Hh} {σ : St} {Dn : Ends} {ds : List (Bool × D)} {vs : List V}, Sv G M0 H0 r hh M σ H → Ext M H M1 H1 → Sv G M0 H0 r h1 M1 σ H1 → RA H G M1 H1 ds vs → KO G Wx M0 H0 M1 H1 Dn (ofP (setsX is ds r) h1) → Dn.nx (setsV is vs σ) H1 ∧ vs.length = is.length := by
        intro M0 M M1 H0 H H1 r hh h1 σ Dn ds vs s e1 s1 ra k1
        cases e : setsX is ds r with
        | none => rw [e] at k1; exact k1.elim
        | some r' =>
          rw [e] at k1
          refine ⟨?_, by rw [← ra.length]; exact setsX_len e⟩
          refine k1 _ M1 H1 Keep.refl (s1.setsX ra s.ent.trk (fun v hv j f q => ?_) e)
          obtain ⟨a, rfl, ha⟩ := ra.ows v hv
          exact s.apart ha j f q
      split at h
      · simp only [Bool.and_eq_true, atB, decide_eq_true_eq] at h
        obtain ⟨⟨⟨⟨⟨⟨hij, hi⟩, hj⟩, hx⟩, hy⟩, ho⟩, hs⟩ := h
        refine PS.imp (ps_par C.calm C.nd (by rw [C.hN]; exact hi) (by rw [C.hN]; exact hj) hij (by rw [C.hsc]; exact hx) (by rw [C.hsc]; exact hy) (sndX xs C ho n) (swSt_ok C.hsc hk hs) rfl) fun Dn σ H ⟨M0, H0, r, hh, M, s, k⟩ => ⟨r, hh, M, s.rl, s.re, oneS C.gk s k fun ds vs h1 M1 H1 e1 s1 ra k1 => ?_⟩
        obtain ⟨q, hl⟩ := fin s e1 s1 ra k1
        match vs, hl with
        | [v, u], _ => exact ⟨v, u, rfl, q⟩
      · simp only [Bool.and_eq_true, atB, decide_eq_true_eq] at h
        obtain ⟨⟨⟨⟨⟨⟨⟨⟨⟨⟨hij, hil⟩, hjl⟩, hi⟩, hj⟩, hl⟩, hx⟩, hy⟩, hz⟩, ho⟩, hs⟩ := h
        refine PS.imp (ps_par3 C.calm C.nd (by rw [C.hN]; exact hi) (by rw [C.hN]; exact hj) (by rw [C.hN]; exact hl) hij hil hjl (by rw [C.hsc]; exact hx) (by rw [C.hsc]; exact hy) (by rw [C.hsc]; exact hz) (sndX xs C ho n) (swSt_ok C.hsc hk hs) rfl) fun Dn σ H ⟨M0, H0, r, hh, M, s, k⟩ => ⟨r, hh, M, s.rl, s.re, oneS C.gk s k fun ds vs h1 M1 H1 e1 s1 ra k1 => ?_⟩
        obtain ⟨q, hl⟩ := fin s e1 s1 ra k1
        match vs, hl with
        | [v, u, w], _ => exact ⟨v, u, w, rfl, q⟩
      · cases h
    · cases h
end Pf

set_option Elab.async false
set_option linter.all false
set_option maxRecDepth 100000
/-! ## Lists that are changed -/
namespace Pf
open PySem L2
theorem few_of : ∀ {es : List Expr}, es.all notStar = true → ∀ {p : Pos} {env : Env}, (backTo p (starEach es env)).all (fun x => !x.1) = true
  | [], _, _, _ => rfl
  | a :: es, h, p, env => by
    simp only [List.all_cons, Bool.and_eq_true] at h
    rw [star_cons h.1]
    have ih := few_of h.2 (p := p) (env := env)
    unfold backTo at ih ⊢
    simpa using ih
theorem base_of {a : Expr} {n : Str} {env : Env} (h : plainBase a = true) : attributeBase a n env (eval a env) = eval a env := by
  cases a <;> first | rfl | (simp [plainBase] at h)
/-- the call of a method: its receiver and arguments -/
def methB (m : Str) (o : Ck → Expr → Bool) (as : Ck → List Expr → Bool) (ck : Ck) (a : Expr) : Bool := match a with
  | .Call (.Attribute y n ap) (e :: es) [] p => n == m && o ck y && as ck (e :: es) && decide (es.length < 19) && plainBase y && (ap.endLine == p.line)
  | _ => false
theorem methB_some {m : Str} {o : Ck → Expr → Bool} {as : Ck → List Expr → Bool} {ck : Ck} {a : Expr} (h : methB m o as ck a = true) : ∃ y ap e es p, a = .Call (.Attribute y m ap) (e :: es) [] p ∧ o ck y = true ∧ as ck (e :: es) = true ∧ es.length < 19 ∧ plainBase y = true ∧ (ap.endLine == p.line) = true := by
  unfold methB at h
  split at h
  · simp only [Bool.and_eq_true, beq_iff_eq, decide_eq_true_eq] at h
    obtain ⟨⟨⟨⟨⟨rfl, h1⟩, h2⟩, h3⟩, h4⟩, h5⟩ := h
    exact ⟨_, _, _, _, _, rfl, h1, h2, h3, h4, by simpa using h5⟩
  · cases h
theorem few1 {e : Expr} {es : List Expr} {p : Pos} {env : Env} (hs : (e :: es).all notStar = true) (hl : es.length < 19) : ((backTo p (starEach (e :: es) env)).all (fun x => !x.1) && decide ((e :: es).length + ([] : List Keyword).length < 20)) = true := by
  rw [few_of hs]
  simp
  omega
/-- x.append(e), x a name that owns its list -/
def Sm.app (j : Nat) (x : Xp) : Sm where
  sem r h := match r[j]? with
    | some (.ow (.lst l)) => (x.sem r h).st r fun d h1 => if l.length < line then .nx (r.set j (.ow (.lst (l ++ [d])))) h1 else .no
    | _ => .no
  ok ck st := match st with
    | .Expr a _ => methB "append" (varB j) (okA [x]) ck a
    | _ => false
  need := x.need
  snd {X G ck k Wx st} C hk h n := by
    split at h
    · obtain ⟨y, ap, e, es, p, rfl, hy, hA, hl, hb, hp⟩ := methB_some h
      have hst := okA_star hA
      have hst' := hst
      simp only [List.all_cons, Bool.and_eq_true] at hst'
      refine PS.imp (ps_expr (pe_bm PySem.F.plainAttrs_list PySem.F.slot_list_append PySem.F.type_list_append mt_append (pe_varB C hy) (sndA [x] C hA ⟨n, trivial⟩) (base_of hb) (by
        rw [few_of hst]
        simp [keywordEach, backToKw]
        omega) hp (star_cons hst'.1 _) (stars_of hst'.2)) rfl) fun Dn σ H ⟨M0, H0, r, hh, M, s, k⟩ => ?_
      dsimp only at k
      split at k
      · rename_i l q
        obtain ⟨a, h1, ro, na, nf⟩ := s.re.ow j _ q
        cases ro with
        | lst ha rv =>
          refine ⟨_, h1, .inl ⟨rfl, _, SqL.of ha⟩, r, hh, M, s.rl, s.re, ?_⟩
          have k' : KO G Wx M0 H0 M H Dn ((semA [x] r hh).st r fun ds h1 => match ds with
            | [d] => if l.length < line then .nx (r.set j (.ow (.lst (l ++ [d])))) h1 else .no
            | _ => .no) := by
            simp only [semA]
            cases q2 : x.sem r hh <;> rw [q2] at k <;> exact k
          refine oneS C.gk s k' fun ds vs h2 M1 H1 e1 s1 rvs k1 => ?_
          split at k1
          · rename_i d
            split at k1
            · rename_i hlen
              cases rvs with
              | cons rd t =>
                cases t
                obtain ⟨b, hb1, ro1, na1, nf1⟩ := s1.re.ow j _ q
                rw [h1] at hb1; cases hb1
                cases ro1 with
                | lst ha1 rv1 =>
                  refine ⟨a, _, _, rfl, rfl, ha1, by rw [← rv1.length, ← line_eq]; exact hlen, ?_⟩
                  obtain ⟨kp, s2⟩ := s1.write C.gk (o := .lst _) q h1 (.lst upd_same ((rv1.append (.cons rd .nil)).keep C.gk (Keep.poke nf1)))
                  exact k1 σ M1 _ kp s2
            · exact k1.elim
          · exact k1.elim
      · exact k.elim
    · cases h
/-- x.append(e), x a list of the heap -/
def Xp.app (o x : Xp) : Xp where
  sem r h := (o.sem r h).bind fun d h1 => match d with
    | .ref i => (match h1[i]? with
      | some (.lst _) => (x.sem r h1).bind fun e h2 => (match h2[i]? with
        | some (.lst l) => if l.length < line then .ok .non (h2.set i (.lst (l ++ [e]))) else .no
        | _ => .no)
      | _ => .no)
    | _ => .no
  ok := methB "append" o.ok (okA [x])
  need t := o.need t ∧ x.need t
  star _ a h := by obtain ⟨y, ap, e, es, p, rfl, _⟩ := methB_some h; rfl
  snd {X G ck k Wx a} C h n := by
    obtain ⟨y, ap, e, es, p, rfl, hy, hA, hl, hb, hp⟩ := methB_some h
    have hst := okA_star hA
    have hst' := hst
    simp only [List.all_cons, Bool.and_eq_true] at hst'
    refine PE.imp (pe_bm PySem.F.plainAttrs_list PySem.F.slot_list_append PySem.F.type_list_append mt_append (o.snd C hy n.1) (sndA [x] C hA ⟨n.2, trivial⟩) (base_of hb) (by
      rw [few_of hst]
      simp [keywordEach, backToKw]
      omega) hp (star_cons hst'.1 _) (stars_of hst'.2)) fun σ H Qv ⟨r, hh, M, rl, re, k⟩ => ⟨r, hh, M, rl, re, one k fun d v h1 M1 H1 e1 r1 b1 k1 => ?_⟩
    try dsimp only at k1
    split at k1
    · rename_i i
      split at k1
      · rename_i l q
        cases b1 with
        | ref hb1 =>
          cases r1.look q hb1 with
          | lst ha rv =>
            refine ⟨.inl ⟨rfl, _, SqL.of ha⟩, r, h1, M1, r1, re.ext C.gk rl e1, ?_⟩
            have k' : KG (RV G) G Wx σ M1 H1 Qv ((semA [x] r h1).bind fun ds h2 => match ds with
              | [e] => (match h2[i]? with
                | some (.lst l) => if l.length < line then .ok .non (h2.set i (.lst (l ++ [e]))) else .no
                | _ => .no)
              | _ => .no) := by
              simp only [semA]
              cases q2 : x.sem r h1 <;> rw [q2] at k1 <;> exact k1
            refine one k' fun ds vs h2 M2 H2 e2 r2 rvs k2 => ?_
            split at k2
            · rename_i e
              split at k2
              · rename_i l2 q2
                split at k2
                · rename_i hlen
                  cases rvs with
                  | cons rd t =>
                    cases t
                    have hb2 := e2.get hb1
                    cases r2.look q2 hb2 with
                    | lst ha2 rv2 =>
                      refine ⟨_, _, _, rfl, rfl, ha2, by rw [← rv2.length, ← line_eq]; exact hlen, ?_⟩
                      have hm : _ ∈ M2.bs := List.mem_iff_getElem?.mpr ⟨i, hb2⟩
                      exact k2 _ M2 _ (Ext.chg hm) (r2.chg C.gk hb2 (.lst upd_same ((rv2.append (.cons rd .nil)).keep C.gk (Keep.chg r2 hm)))) .non
                · exact k2.elim
              · exact k2.elim
            · exact k2.elim
      · exact k1.elim
    · exact k1.elim
/-! x[i] = e -/
def setB (o i e : Ck → Expr → Bool) (ck : Ck) (st : Stmt) : Bool := match st with
  | .Assign [.Subscript a b _] v _ => o ck a && i ck b && e ck v && notComp v && notSlice b
  | _ => false
theorem setB_some {o i e : Ck → Expr → Bool} {ck : Ck} {st : Stmt} (h : setB o i e ck st = true) : ∃ a b p v q, st = .Assign [.Subscript a b p] v q ∧ o ck a = true ∧ i ck b = true ∧ e ck v = true ∧ notComp v = true ∧ notSlice b = true := by
  unfold setB at h
  split at h
  · simp only [Bool.and_eq_true] at h
    exact ⟨_, _, _, _, _, rfl, h.1.1.1.1, h.1.1.1.2, h.1.1.2, h.1.2, h.2⟩
  · cases h
theorem ps_setI {X : Cx} {a b c : Expr} {p q : Pos} {ta tb tc : TE} {rs : V → V → V → Hp → (Hp → Prop) → Prop} (hc : notComp c = true) (hb : notSlice b = true) (PSt : PSet X rs) (h1 : PE X a ta) (h2 : PE X b tb) (h3 : PE X c tc) : PS X (.Assign [.Subscript a b p] c q) (tAsg tc (fun v σ H Qs => ta σ H fun o H1 => tb σ H1 fun i H2 => rs o i v H2 fun H' => Qs σ H')) := by
  refine ps_asg h3 (pg_sub h1 h2 PSt (by intro v; cases b <;> first | rfl | (simp [notSlice] at hb))) ?_ ?_ rfl
  · cases c <;> first | rfl | (simp [notComp] at hc)
  · cases c <;> rfl
def ixNat (n : Nat) (k : Int) : Option Nat := if 0 ≤ k ∧ k < n then some k.toNat else none
theorem ixNat_ok {n j : Nat} {k : Int} (h : ixNat n k = some j) : ixN n k = some j := by
  unfold ixNat at h
  split at h
  · rename_i hk
    cases h
    unfold ixN
    rw [if_pos hk.1, if_pos hk.2]
  · cases h
/-- x[i] = e, x a name that owns its list -/
def Sm.setO (j : Nat) (i e : Xp) : Sm where
  sem r h := (e.sem r h).st r fun d h1 => match r[j]? with
    | some (.ow (.lst l)) => (i.sem r h1).st r fun k h2 => (match k with
      | .int k => (match ixNat l.length k with
        | some m => .nx (r.set j (.ow (.lst (l.set m d)))) h2
        | none => .no)
      | _ => .no)
    | _ => .no
  ok := setB (varB j) i.ok e.ok
  need t := i.need t ∧ e.need t
  snd {X G ck k Wx st} C hk h n := by
    obtain ⟨a, b, p, v, q, rfl, h1, h2, h3, h4, h5⟩ := setB_some h
    refine PS.imp (ps_setI h4 h5 set_list (pe_varB C h1) (i.snd C h2 n.1) (e.snd C h3 n.2)) fun Dn σ H ⟨M0, H0, r, hh, M, s, k⟩ => ⟨r, hh, M, s.rl, s.re, oneS C.gk s k fun d v h1 M1 H1 e1 s1 rd k1 => ?_⟩
    try dsimp only at k1
    split at k1
    · rename_i l q
      obtain ⟨a, ha, _⟩ := s1.re.ow j _ q
      refine ⟨_, ha, r, h1, M1, s1.rl, s1.re, oneS C.gk s1 k1 fun kk w h2 M2 H2 e2 s2 rk k2 => ?_⟩
      try dsimp only at k2
      split at k2
      · split at k2
        · rename_i m hm
          cases rk
          obtain ⟨b, hb, ro, na, nf⟩ := s2.re.ow j _ q
          rw [ha] at hb; cases hb
          cases ro with
          | lst h6 rv =>
            refine ⟨_, _, _, _, rfl, rfl, h6, by rw [← rv.length]; exact ixNat_ok hm, ?_⟩
            obtain ⟨kp, s3⟩ := s2.write C.gk (o := .lst _) q ha (.lst upd_same ((rv.set (rd.ext C.gk s1.rl e2) m).keep C.gk (Keep.poke nf)))
            exact k2 σ M2 _ kp s3
        · exact k2.elim
      · exact k2.elim
    · exact k1.elim
/-- x[i] = e, x a list of the heap -/
def Sm.setH (o i e : Xp) : Sm where
  sem r h := (e.sem r h).st r fun d h1 => (o.sem r h1).st r fun x h2 => (i.sem r h2).st r fun k h3 => match x, k with
    | .ref p, .int k => (match h3[p]? with
      | some (.lst l) => (match ixNat l.length k with
        | some m => .nx r (h3.set p (.lst (l.set m d)))
        | none => .no)
      | _ => .no)
    | _, _ => .no
  ok := setB o.ok i.ok e.ok
  need t := o.need t ∧ i.need t ∧ e.need t
  snd {X G ck k Wx st} C hk h n := by
    obtain ⟨a, b, p, v, q, rfl, h1, h2, h3, h4, h5⟩ := setB_some h
    refine PS.imp (ps_setI h4 h5 set_list (o.snd C h1 n.1) (i.snd C h2 n.2.1) (e.snd C h3 n.2.2)) fun Dn σ H ⟨M0, H0, r, hh, M, s, k⟩ => ⟨r, hh, M, s.rl, s.re, oneS C.gk s k fun d v h1 M1 H1 e1 s1 rd k1 => ⟨r, h1, M1, s1.rl, s1.re, oneS C.gk s1 k1 fun x u h2 M2 H2 e2 s2 rx k2 => ⟨r, h2, M2, s2.rl, s2.re, oneS C.gk s2 k2 fun kk w h3 M3 H3 e3 s3 rk k3 => ?_⟩⟩⟩
    try dsimp only at k3
    split at k3
    · split at k3
      · rename_i pp _ l q
        split at k3
        · rename_i m hm
          cases rk
          cases rx with
          | ref hb =>
            have hb3 := e3.get hb
            cases s3.rl.look q hb3 with
            | lst h6 rv =>
              refine ⟨_, _, _, _, rfl, rfl, h6, by rw [← rv.length]; exact ixNat_ok hm, ?_⟩
              have hm' : _ ∈ M3.bs := List.mem_iff_getElem?.mpr ⟨_, hb3⟩
              have rl3 := s3.rl.chg C.gk (o := .lst _) hb3 (.lst upd_same ((rv.set ((rd.ext C.gk s1.rl e2).ext C.gk s2.rl e3) m).keep C.gk (Keep.chg s3.rl hm')))
              exact k3 σ M3 _ (Keep.chg s3.rl hm') (s3.step C.gk (Ext.chg hm') rl3)
        · exact k3.elim
      · exact k3.elim
    · exact k3.elim
end Pf

set_option Elab.async false
set_option linter.all false
set_option maxRecDepth 100000
/-! ## Defs: what they compute, with the heap, without it, with one thing of it -/
namespace Pf
open PySem L2
def startR (n : Nat) (ds : List D) : Rho := ds.map Sl.pl ++ List.replicate (n - ds.length) Sl.un
def outR : Out → Res D
  | .nx _ h => .ok .non h
  | .rt d h => .ok d h
  | .exc c fs _ h => .exc c fs h
  | _ => .no
/-- what a def of n names and m parameters computes -/
def fnF (n m : Nat) (body : List Si) : Fsem := fun ds h => if ds.length = m then outR (semSs body (startR n ds) h) else .no
theorem RE.start {G : Gx} {M : Mp} {H : Hp} {N : List Str} {ds : List D} {vs : List V} (rd : RVs G M H ds vs) : RE G M H (startR N.length ds) (L2.start N vs) := by
  have pl : ∀ (i : Nat) (s : Sl), (startR N.length ds)[i]? = some s → s ≠ .un → ∃ d, s = .pl d ∧ ds[i]? = some d := by
    intro i s e hs
    unfold startR at e
    by_cases hi : i < ds.length
    · rw [List.getElem?_append_left (by simpa using hi), List.getElem?_map] at e
      cases q : ds[i]? with
      | none => rw [q] at e; cases e
      | some d =>
        rw [q] at e
        exact ⟨d, by simpa using e.symm, rfl⟩
    · rw [List.getElem?_append_right (by simpa using hi), List.getElem?_replicate] at e
      split at e <;> cases e
      exact absurd rfl hs
  refine ⟨?_, fun i d e => ?_, fun i d e => ?_, fun i j d e a q1 q2 s1 s2 => ?_⟩
  · unfold startR L2.start
    simp [rd.length]
  · obtain ⟨d', e1, e2⟩ := pl i _ e (by simp)
    cases e1
    obtain ⟨v, h1, h2⟩ := rd.get e2
    refine ⟨v, ?_, h2⟩
    have hi : i < ds.length := (List.getElem?_eq_some_iff.mp e2).1
    unfold L2.start
    rw [List.getElem?_append_left (by rw [List.length_map, ← rd.length]; exact hi), List.getElem?_map, h1]
    rfl
  · obtain ⟨d', e1, e2⟩ := pl i _ e (by simp)
    cases e1
  · obtain ⟨d', e1, e2⟩ := pl i _ q1 (by simp)
    cases e1
section
variable {P : Program} {w : World} {G : Gx} {base : Heap} {k : Nat} {f : Str}
theorem fnok_L (gk : Gk G) {qual : Str} {st : Stmt} {a : Addr} {fd : FuncData} {N ps : List Str} {ss : List Si} (F : Fun G.K f qual st a fd) (hsc : FnScope N ps (defScope st)) (ok : okSs ss ⟨N, defScope st, false⟩ (defBody st) = true) (nd : needSs ss ⟨P, w, G, base, k⟩) : FnOk P w G.K G.mg base (CX P w) (k + 3) a fd ps (lift G (fnF N.length ps.length ss)) := by
  refine F.okX hsc (fun vs H Q E ⟨ds, h, M, rl, rd, kq⟩ => ?_) fun cdv A outer s H vs Qv E hr ⟨ds, h, M, rl, rd, kq⟩ => ?_
  · unfold fnF at kq
    split at kq
    · rename_i e; rw [← rd.length]; exact e
    · exact kq.elim
  · have C : Cok (cxOf (L2.CX P w) P w G.K G.mg base N qual (defScope st) a cdv A outer s H E) G ⟨N, defScope st, false⟩ k (fun cls d _ H' => E cls d H') :=
      ⟨rfl, rfl, rfl, rfl, rfl, hsc.nd, hr, takes_of rfl rfl rfl rfl, passes_of rfl, fun _ _ => rfl, gk⟩
    refine ⟨_, sndSs ss C hsc.kind ok nd, M, H, startR N.length ds, h, M, ⟨Ext.refl, rl, RE.start rd, fun i d a q1 q2 => ?_⟩, ?_⟩
    · have := (RE.start (N := N) rd).ow i d q1
      exfalso
      unfold startR at q1
      by_cases hi : i < ds.length
      · rw [List.getElem?_append_left (by simpa using hi), List.getElem?_map] at q1
        cases q : ds[i]? with
        | none => rw [q] at q1; cases q1
        | some d => rw [q] at q1; cases q1
      · rw [List.getElem?_append_right (by simpa using hi), List.getElem?_replicate] at q1
        split at q1 <;> cases q1
    · unfold fnF at kq
      split at kq
      · cases q : semSs ss (startR N.length ds) h with
        | nx r' h' => rw [q] at kq; exact fun σ' M' H' _ s' => kq _ M' H' s'.ent s'.rl .non
        | rt d h' => rw [q] at kq; exact fun v M' H' e rl' rv => kq v M' H' e rl' rv
        | exc c fs r' h' => rw [q] at kq; exact fun cls dx σ' M' H' _ s' rx => kq cls dx M' H' s'.ent s'.rl rx
        | bk r' h' => rw [q] at kq; exact kq.elim
        | ct r' h' => rw [q] at kq; exact kq.elim
        | no => rw [q] at kq; exact kq.elim
      · exact kq.elim
theorem FnL.mono {t : Tb} {F : Fsem} {j : Nat} (h : FnL ⟨t.P, t.w, t.G, t.base, j⟩ f F) (hj : j ≤ t.k) : FnL t f F := by
  obtain ⟨a, fd, ps, h1, h2, h3, h4⟩ := h
  exact ⟨a, fd, ps, h1, h2, h3, h4.mono hj⟩
end

/-! ### data without a ref -/
mutual
def nr : D → Bool
  | .non => true | .bl _ => true | .int _ => true | .str _ => true | .ty _ => true
  | .tup l => nrs l | .lst l => nrs l | .lsc l => nrs l
  | .dct l => nrp l | .set l => nrs l
  | .ins _ l => nrf l
  | .ref _ => false | .gl _ => true
  | .clo _ l => nrs l | .exc _ l => nrf l
def nrs : List D → Bool
  | [] => true
  | d :: l => nr d && nrs l
def nrp : List (D × D) → Bool
  | [] => true
  | (a, b) :: l => nr a && nr b && nrp l
def nrf : List (Nat × D) → Bool
  | [] => true
  | (_, b) :: l => nr b && nrf l
end
section
variable {G : Gx} {F : Addr → Prop} {b1 b2 : List Addr} {H : Hp}
mutual
theorem RV.nr (hc : True) : ∀ {d : D} {v : V}, nr d = true → RV G ⟨F, b1⟩ H d v → RV G ⟨F, b2⟩ H d v
  | _, _, _, .non => .non
  | _, _, _, .bl b => .bl b
  | _, _, _, .int i => .int i
  | _, _, _, .str x => .str x
  | _, _, _, .ty n => .ty n
  | _, _, e, .tup h r => .tup h (RVs.nr hc (by simpa [Pf.nr] using e) r)
  | _, _, e, .scr h r => .scr h (RVs.nr hc (by simpa [Pf.nr] using e) r)
  | _, _, e, .lst h r => .lst h (RO.nr hc e r)
  | _, _, e, .dct h r => .dct h (RO.nr hc e r)
  | _, _, e, .set h r => .set h (RO.nr hc e r)
  | _, _, e, .ins h r => .ins h (RO.nr hc e r)
  | _, _, e, .ref h => by simp [Pf.nr] at e
  | _, _, _, .gl h => .gl h
  | _, _, e, .clo h r => .clo h (RVs.nr hc (by simpa [Pf.nr] using e) r)
  | _, _, e, .exc m h d n r => .exc m h d n (RFs.nr hc (by simpa [Pf.nr] using e) r)
theorem RVs.nr (hc : True) : ∀ {l : List D} {xs : List V}, nrs l = true → RVs G ⟨F, b1⟩ H l xs → RVs G ⟨F, b2⟩ H l xs
  | _, _, _, .nil => .nil
  | _, _, e, .cons h t => by
    simp only [nrs, Bool.and_eq_true] at e
    exact .cons (RV.nr hc e.1 h) (RVs.nr hc e.2 t)
theorem RFs.nr (hc : True) : ∀ {l : List (Nat × D)} {xs : List (Str × V)}, nrf l = true → RFs G ⟨F, b1⟩ H l xs → RFs G ⟨F, b2⟩ H l xs
  | _, _, _, .nil => .nil
  | _, _, e, .cons n h t => by
    simp only [nrf, Bool.and_eq_true] at e
    exact .cons n (RV.nr hc e.1 h) (RFs.nr hc e.2 t)
theorem RPs.nr (hc : True) : ∀ {l : List (D × D)} {xs : List DictEntry}, nrp l = true → RPs G ⟨F, b1⟩ H l xs → RPs G ⟨F, b2⟩ H l xs
  | _, _, _, .nil => .nil
  | _, _, e, .cons k q d s g t => by
    simp only [nrp, Bool.and_eq_true] at e
    exact .cons (RV.nr hc e.1.1 k) q (RV.nr hc e.1.2 d) s g (RPs.nr hc e.2 t)
theorem RSs.nr (hc : True) : ∀ {l : List D} {xs : List (Int × Value)}, nrs l = true → RSs G ⟨F, b1⟩ H l xs → RSs G ⟨F, b2⟩ H l xs
  | _, _, _, .nil => .nil
  | _, _, e, .cons k q g t => by
    simp only [nrs, Bool.and_eq_true] at e
    exact .cons (RV.nr hc e.1 k) q g (RSs.nr hc e.2 t)
theorem RO.nr (hc : True) : ∀ {a : Addr} {o : D}, nr o = true → RO G ⟨F, b1⟩ H a o → RO G ⟨F, b2⟩ H a o
  | _, _, e, .lst h r => .lst h (RVs.nr hc (by simpa [Pf.nr] using e) r)
  | _, _, e, .dct h m n r => .dct h m n (RPs.nr hc (by simpa [Pf.nr] using e) r)
  | _, _, e, .set h r => .set h (RSs.nr hc (by simpa [Pf.nr] using e) r)
  | _, _, e, .ins i m h r => .ins i m h (RFs.nr hc (by simpa [Pf.nr] using e) r)
  | _, _, e, .sl0 i m h => .sl0 i m h
  | _, _, e, .sl1 i m h f x o r => .sl1 i m h f x o (RFs.nr hc (by simpa [Pf.nr] using e) r)
end
end
/-- what a def computes without the heap: no ref goes in, none comes out -/
def pureOf (F : Fsem) : Fsem := fun ds h => if nrs ds then (match F ds [] with
  | .ok d _ => if nr d then .ok d h else .no
  | .exc c fs _ => if nrf fs then .exc c fs h else .no
  | .no => .no) else .no
/-- the state as it was, the heap's things as they were -/
theorem sub_back {G : Gx} (gk : Gk G) {h h1 : Hh} {M M1 : Mp} {H H1 : Hp} {b : List Addr} (rl : RL G h M H) (hb : ∀ a ∈ b, a ∈ M.bs) (e : Ext ⟨M.F, b⟩ H M1 H1) (r1 : RL G h1 M1 H1) : Ext M H ⟨M1.F, M.bs⟩ H1 ∧ Keep M H ⟨M1.F, M.bs⟩ H1 ∧ ∀ a ∈ M.bs, ¬ M1.F a := by
  have off : ∀ a ∈ M.bs, ¬ M1.F a := fun a ha z => by
    obtain ⟨u, q, y⟩ := rl.tracked ha
    rcases e.newF a z with w | w | w | ⟨x, w⟩
    · exact rl.off a ha w
    · exact r1.off a (e.mem w) z
    · rw [q] at w; cases w
    · rw [q] at w; cases w; exact y x rfl
  have ex : Ext M H ⟨M1.F, M.bs⟩ H1 := ⟨fun c o hc n y => e.keep c o hc (fun z => n (hb c z)) y, e.trk, e.fz, ⟨[], by simp, by simp⟩, fun c z => by
    rcases e.newF c z with w | w | w | w
    · exact .inl w
    · exact .inr (.inl (hb c w))
    · exact .inr (.inr (.inl w))
    · exact .inr (.inr (.inr w))⟩
  exact ⟨ex, ex.kp rl, off⟩
theorem RX.nr {G : Gx} {F : Addr → Prop} {b1 b2 : List Addr} {H : Hp} {c : Nat} {fs : List (Nat × D)} {cls : Value} {dx : Option Addr} (n : nrf fs = true) (x : RX G ⟨F, b1⟩ H c fs cls dx) : RX G ⟨F, b2⟩ H c fs cls dx := by
  obtain ⟨C, h1, h2, h3⟩ := x
  refine ⟨C, h1, h2, ?_⟩
  cases dx with
  | none => exact h3
  | some d =>
    obtain ⟨h4, vs, h5, h6⟩ := h3
    exact ⟨h4, vs, h5, RFs.nr trivial n h6⟩
theorem lift_pure {G : Gx} (gk : Gk G) {F : Fsem} {vs : List V} {H : Hp} {Q : VK} {E : XK} (x : lift G (pureOf F) vs H Q E) : lift G F vs H Q E := by
  obtain ⟨ds, h, M, rl, rd, k⟩ := x
  unfold pureOf at k
  split at k
  · rename_i hn
    refine ⟨ds, [], ⟨M.F, []⟩, ⟨rfl, fun i o e => by simp at e, by simp, fun a ha => by simp at ha, rl.fz⟩, RVs.nr (b1 := M.bs) trivial hn rd, ?_⟩
    have back : ∀ {M1 : Mp} {H1 : Hp} {h1 : Hh}, Ext ⟨M.F, []⟩ H M1 H1 → RL G h1 M1 H1 → Ext M H ⟨M1.F, M.bs⟩ H1 ∧ RL G h ⟨M1.F, M.bs⟩ H1 := by
      intro M1 H1 h1 e r1
      obtain ⟨e2, kp, off⟩ := sub_back gk rl (fun a ha => by simp at ha) e r1
      refine ⟨e2, rl.len, fun i o q => ?_, rl.nd, off, r1.fz⟩
      obtain ⟨a, ha, ro⟩ := rl.at_ i o q
      obtain ⟨u, hu, hy⟩ := ro.some
      exact ⟨a, ha, ro.keep gk kp fun w z => e.keep a w z (by simp) (by rw [hu] at z; cases z; exact hy)⟩
    cases q : F ds [] with
    | no => rw [q] at k; exact k
    | ok d h1 =>
      rw [q] at k
      dsimp only at k
      split at k
      · rename_i hd
        intro v M1 H1 e r1 rv
        obtain ⟨e2, r2⟩ := back e r1
        exact k v _ H1 e2 r2 (RV.nr (b1 := M1.bs) trivial hd rv)
      · exact k.elim
    | exc c fs h1 =>
      rw [q] at k
      dsimp only at k
      split at k
      · rename_i hd
        intro cls dx M1 H1 e r1 rx
        obtain ⟨e2, r2⟩ := back e r1
        exact k cls dx _ H1 e2 r2 (RX.nr (b1 := M1.bs) hd rx)
      · exact k.elim
  · exact k.elim
/-- what a def computes that gets one thing of the heap: no other ref goes in, none comes out -/
def rowOf (F : Fsem) : Fsem := fun ds h => match ds with
  | .ref i :: ds => (match h[i]? with
    | some o => if nr o && nrs ds then (match F (.ref 0 :: ds) [o] with
      | .ok d (o' :: _) => if nr d && nr o' then .ok d (h.set i o') else .no
      | .exc c fs (o' :: _) => if nrf fs && nr o' then .exc c fs (h.set i o') else .no
      | _ => .no) else .no
    | none => .no)
  | _ => .no
theorem lift_row {G : Gx} (gk : Gk G) {F : Fsem} {vs : List V} {H : Hp} {Q : VK} {E : XK} (x : lift G (rowOf F) vs H Q E) : lift G F vs H Q E := by
  obtain ⟨ds, h, M, rl, rd, k⟩ := x
  unfold rowOf at k
  split at k
  · rename_i i ds
    split at k
    · rename_i o ho
      split at k
      · rename_i hn
        simp only [Bool.and_eq_true] at hn
        cases rd with
        | cons r1 rds =>
          cases r1 with
          | ref hb =>
            rename_i us a
            have hm : a ∈ M.bs := List.mem_iff_getElem?.mpr ⟨i, hb⟩
            have hsub : ∀ b ∈ [a], b ∈ M.bs := fun b z => by simp at z; subst z; exact hm
            have ro := rl.look ho hb
            have ro' : RO G ⟨M.F, [a]⟩ H a o := RO.nr (b1 := M.bs) trivial hn.1 ro
            refine ⟨.ref 0 :: ds, [o], ⟨M.F, [a]⟩, ⟨rfl, fun j u q => ?_, by simp, fun b z => rl.off b (hsub b z), rl.fz⟩, .cons (.ref rfl) (RVs.nr (b1 := M.bs) trivial hn.2 rds), ?_⟩
            · cases j with
              | zero => simp at q; subst q; exact ⟨a, rfl, ro'⟩
              | succ j => simp at q
            have back : ∀ {M1 : Mp} {H1 : Hp} {o' : D} {hs : Hh}, Ext ⟨M.F, [a]⟩ H M1 H1 → RL G (o' :: hs) M1 H1 → Pf.nr o' = true → Ext M H ⟨M1.F, M.bs⟩ H1 ∧ RL G (h.set i o') ⟨M1.F, M.bs⟩ H1 := by
              intro M1 H1 o' hs e r1 no
              obtain ⟨e2, kp, off⟩ := sub_back gk rl hsub e r1
              refine ⟨e2, by simp [rl.len], fun j u q => ?_, rl.nd, off, r1.fz⟩
              have hi : i < h.length := (List.getElem?_eq_some_iff.mp ho).1
              by_cases z : i = j
              · subst z
                rw [List.getElem?_set_self hi] at q
                cases q
                have h0 : M1.bs[0]? = some a := e.get (i := 0) rfl
                exact ⟨a, hb, RO.nr (b1 := M1.bs) trivial no (r1.look (i := 0) rfl h0)⟩
              · rw [List.getElem?_set_ne z] at q
                obtain ⟨b, hb', ro2⟩ := rl.at_ j u q
                obtain ⟨u', hu, hy⟩ := ro2.some
                have hne : b ∉ [a] := fun w => by
                  simp at w
                  subst w
                  have g1 := List.getElem?_eq_some_iff.mp hb
                  have g2 := List.getElem?_eq_some_iff.mp hb'
                  exact z ((List.getElem_inj rl.nd (h₀ := g1.1) (h₁ := g2.1)).mp (g1.2.trans g2.2.symm))
                exact ⟨b, hb', ro2.keep gk kp fun w z => e.keep b w z hne (by rw [hu] at z; cases z; exact hy)⟩
            split at k
            · rename_i d o1 hs q
              rw [q]
              split at k
              · rename_i hd
                simp only [Bool.and_eq_true] at hd
                intro v M1 H1 e r1 rv
                obtain ⟨e2, r2⟩ := back e r1 hd.2
                exact k v _ H1 e2 r2 (RV.nr (b1 := M1.bs) trivial hd.1 rv)
              · exact k.elim
            · rename_i c fs o1 hs q
              rw [q]
              split at k
              · rename_i hd
                simp only [Bool.and_eq_true] at hd
                intro cls dx M1 H1 e r1 rx
                obtain ⟨e2, r2⟩ := back e r1 hd.2
                exact k cls dx _ H1 e2 r2 (RX.nr (b1 := M1.bs) hd.1 rx)
              · exact k.elim
            · exact k.elim
      · exact k.elim
    · exact k.elim
  · exact k.elim
/-- a def of the text, as the head's facts tell it -/
structure DefAt (K : PySem.W.Frag) (mg : Str → Option Value) (f : Str) (st : Stmt) : Prop where
  ex : ∃ (a : Addr) (fd : FuncData), mg f = some (.ref a) ∧ Fun K f f st a fd
theorem DefAt.mk' {K : PySem.W.Frag} {h : Heap} {mg : Str → Option Value} {f : Str} {st : Stmt} {a : Addr} {oc : Value} {od an : Option Addr} {osl : Array (Option Value)} {kV doc pm cdv ct : Value} (X : K.In h) (G : h.Ns mainGlobals mg)
    (n : PySem.W.nsIn K mainGlobals f = some (some (.ref a))) (l : K.lookup a = some ⟨oc, od, .func (PySem.W.fnOf f f (defArgs st) (defBody st) (defScope st) .none kV doc pm an cdv ct), osl⟩) (c : PySem.W.codeIn K cdv f = true) (k : PySem.W.keepIn K (.ref a) = true) : DefAt K mg f st :=
  ⟨a, _, PySem.W.mg_of X G n, fun_mk l c k⟩
section
variable {P : Program} {w : World} {G : Gx} {base : Heap} {k : Nat} {f : Str}
theorem DefAt.fn (gk : Gk G) {st : Stmt} {N ps : List Str} {ss : List Si} (F : DefAt G.K G.mg f st) (hsc : FnScope N ps (defScope st)) (ok : okSs ss ⟨N, defScope st, false⟩ (defBody st) = true) (nd : needSs ss ⟨P, w, G, base, k⟩)
    (hb : ∀ (kV doc pm : Value) (an : Option Addr) (cdv ct : Value) (us : List Value), us.length = ps.length → bindArgs (PySem.W.fnOf f f (defArgs st) (defBody st) (defScope st) .none kV doc pm an cdv ct) ⟨us, []⟩ = pure (ps.zip us)) : FnL ⟨P, w, G, base, k + 3⟩ f (fnF N.length ps.length ss) := by
  obtain ⟨a, fd, hm, F⟩ := F.ex
  exact ⟨a, fd, ps, hm, F.kp, F.binds hb, fnok_L gk F hsc ok nd⟩
theorem FnL.pure (gk : Gk G) {F : Fsem} (h : FnL ⟨P, w, G, base, k⟩ f F) : FnL ⟨P, w, G, base, k⟩ f (pureOf F) := by
  obtain ⟨a, fd, ps, h1, h2, h3, h4⟩ := h
  exact ⟨a, fd, ps, h1, h2, h3, h4.imp fun vs H Q E x => lift_pure gk x⟩
theorem FnL.row (gk : Gk G) {F : Fsem} (h : FnL ⟨P, w, G, base, k⟩ f F) : FnL ⟨P, w, G, base, k⟩ f (rowOf F) := by
  obtain ⟨a, fd, ps, h1, h2, h3, h4⟩ := h
  exact ⟨a, fd, ps, h1, h2, h3, h4.imp fun vs H Q E x => lift_row gk x⟩
/-- a plainer account of what a def computes -/
theorem FnL.by {F F' : Fsem} (h : FnL ⟨P, w, G, base, k⟩ f F) (e : ∀ ds h, F' ds h ≠ .no → F ds h = F' ds h) : FnL ⟨P, w, G, base, k⟩ f F' := by
  obtain ⟨a, fd, ps, h1, h2, h3, h4⟩ := h
  refine ⟨a, fd, ps, h1, h2, h3, h4.imp fun vs H Q E ⟨ds, hh, M, rl, rd, kq⟩ => ⟨ds, hh, M, rl, rd, ?_⟩⟩
  by_cases z : F' ds hh = .no
  · rw [z] at kq; exact kq.elim
  · rw [e ds hh z]; exact kq
theorem gv_int {t : Tb} {x : Str} {i : Int} {tk : Tok} (h : t.G.mg x = some (.int i tk)) : GvL t x (.int i) := ⟨_, .int i, h, ⟨tk, rfl⟩, fun _ _ => .int i⟩
theorem gv_str {t : Tb} {x : Str} {y : List Nat} {tk : Tok} (h : t.G.mg x = some (.str (tS y) tk)) : GvL t x (.str y) := ⟨_, .str (tS y), h, ⟨tk, rfl⟩, fun _ _ => .str y⟩
end
/-! ### the end of a law -/
def spLaw (n : Nat) (K : PySem.W.Frag) : L2.Sp := fun vs H Q _ => ∃ (a : Addr) (ns : List Int), vs = [.ref a] ∧ SqL K H a (ns.map V.int) ∧ Only H ∧ ns.length ≤ n ∧ ∀ H', Q (.bl true) H'
theorem spLaw_lift {n : Nat} {G : Gx} {F : Fsem} (law : ∀ ns : List Int, ns.length ≤ n → ∃ h', F [.lsc (ns.map D.int)] [] = .ok (.bl true) h') {vs : List V} {H : Hp} {Q : VK} {E : XK} (x : spLaw n G.K vs H Q E) : lift G F vs H Q E := by
  obtain ⟨a, ns, rfl, hs, ho, hn, q⟩ := x
  obtain ⟨h', e⟩ := law ns hn
  refine ⟨[.lsc (ns.map D.int)], [], ⟨fun b => ∃ o xs, H b = some (.frz o (.lst xs)), []⟩, ⟨rfl, fun i o e => by simp at e, by simp, fun a ha => by simp at ha, fun b ⟨o, xs, e⟩ => ⟨_, e, fun _ z => nomatch z⟩⟩, .cons (.scr ?_ (RVs.ofInts ns)) .nil, ?_⟩
  · rcases hs with (hs | ⟨o, hs⟩) | hs
    · rcases ho a with z | ⟨o, xs, z⟩
      · rw [hs] at z; cases z
      · rw [hs] at z; cases z
    · exact .inl ⟨⟨o, _, hs⟩, o, hs⟩
    · exact .inr hs
  · rw [e]
    intro v M' H' _ _ rv
    cases rv
    exact q H'
/-- the goal that k_head leaves, from the law's own text -/
theorem walk_L {l : PySem.W.OpenLaw} {n k : Nat} {q : Program} {loose : List Str} {XP : (Str → Option Value) → Heap → Prop} {YP : World → Heap → Prop} {d : DefRec} {K : Params → PySem.W.Frag} {x : Str}
    (hn : l.most = some n) (hn2 : n ≤ sizeLine) (hdf : d.params.defaults = []) (hr : Room k callerA) (hY : ∀ (w : World) (h : Heap), YP w h → (K w.params).In h) {Fl : Fsem} (law : ∀ ns : List Int, ns.length ≤ n → ∃ h', Fl [.lsc (ns.map D.int)] [] = .ok (.bl true) h')
    (F : ∀ (w : World) (mg : Str → Option Value) (fa : Addr) (h : Heap), (K w.params).In h → h.Ns mainGlobals mg → mg d.name = some (.ref fa) →
      ∃ (fd : FuncData) (G : Gx), G.K = K w.params ∧ G.mg = mg ∧ (∀ (s : Shared) (u : Value), BindsTo s fd ⟨[u], []⟩ [(x, u)]) ∧
        ∀ base : Heap, (K w.params).In base → base.Ns mainGlobals mg → FnOk l.prog w (K w.params) mg base (L2.CX l.prog w) k fa fd [x] (lift G Fl)) :
    PySem.W.WalkO q loose XP YP l.row.toRowW d [] (fun f vs => PySem.call f vs) := by
  refine L2.walk_of (n := n) (k := k) (x := x) (CX := fun w => L2.CX l.prog w) (sp := fun w => spLaw n (K w.params)) hn hn2 hdf hr hY (fun w mg fa h KX G hm => ?_) (fun w H a ns hl ho hS => ⟨a, ns, rfl, hS, ho, hl, fun _ => rfl⟩) ?_
  · obtain ⟨fd, G', eK, em, hb, hF⟩ := F w mg fa h KX G hm
    exact ⟨fd, hb, fun base h1 h2 => (hF base h1 h2).imp fun vs H Q E hs => spLaw_lift (G := G') law (by rw [eK]; exact hs)⟩
  · intro w H s e s' ⟨_, _, _, _, _, _, _, _, _, _, _, _, z⟩
    exact z
end Pf

set_option Elab.async false
set_option linter.all false
set_option maxRecDepth 100000
/-! ## Instances -/
namespace Pf
open PySem L2
def fldE (c f : Nat) : D → Option D
  | .ins c' fs => if c' = c then fs.lookup f else none
  | _ => none
/-- the class c, whose field f is a slot or none of the class's own names -/
def FldL (t : Tb) (c f : Nat) : Prop := f < 33 ∧ ∃ C, t.G.mg (nmC c) = some (.ref C) ∧ ((isSl c = false ∧ Cls t.G.K C ∧ NoAttr t.G.K C (nmF f)) ∨ (isSl c = true ∧ SlX.SCls t.G.K C ∧ ∃ p i, SlX.Slot1 t.G.K C (nmF f) p i ∧ (slTab c).lookup f = some i))
section
variable {X : Cx} {G : Gx} {ck : Ck} {k : Nat} {Wx : WX} {σ : St} {H : Hp} {M : Mp} {h : Hh}
theorem getattr_D {pins : List (Addr × Obj)} {s : Shared} {A : Around} {E : Value → Shared → Prop} {c f : Nat} {d : D} {fs : List (Nat × D)} {a : Addr} {b : Bool} {Q : Value → Shared → Prop} (hK : G.K = X.K) (t : FldL (tbOf X G k) c f) (I : Inv X pins σ H s) (ro : RO G M H a (.ins c fs)) (e : fs.lookup f = some d)
    (q : ∀ v u s', Inv X pins σ H s' → RelV v u → RV G M H d v → Q u s') : wpAny (model X.prog X.w) A (getAttr (.ref a) (nmF f) b) Q E s := by
  obtain ⟨hf, C, hm, ⟨hs, cl, na⟩ | ⟨hs, cl, p, i, sl, hi⟩⟩ := t
  · dsimp only at cl na
    rw [hK] at cl na
    cases ro with
    | ins i m hh r =>
      rw [hm] at m; cases m
      obtain ⟨v, l, rv⟩ := r.look hf e
      exact getattr_ok I hh cl na l fun u s' I' ru => q v u s' I' ru rv
    | sl0 i m hh => rw [hs] at i; cases i
    | sl1 i m hh _ _ _ _ => rw [hs] at i; cases i
  · dsimp only at cl sl
    rw [hK] at cl sl
    cases ro with
    | ins i m hh r => rw [hs] at i; cases i
    | sl0 i m hh => simp at e
    | sl1 i m hh hF hx so r =>
      rw [hm] at m; cases m
      obtain ⟨v, l, rv⟩ := r.look hf e
      obtain ⟨j, e1, e2⟩ := so f v hf l
      rw [hi] at e1; cases e1
      exact SlX.getslot_ok I (.inr ⟨hh, hx⟩) cl sl e2 fun u s' I' ru => q v u s' I' ru rv
end
def attB (n : Str) (x : Ck → Expr → Bool) (ck : Ck) (a : Expr) : Bool := match a with
  | .Attribute y m _ => m == n && x ck y && plainBase y
  | _ => false
theorem attB_some {n : Str} {x : Ck → Expr → Bool} {ck : Ck} {a : Expr} (h : attB n x ck a = true) : ∃ y p, a = .Attribute y n p ∧ x ck y = true ∧ plainBase y = true := by
  unfold attB at h
  split at h
  · simp only [Bool.and_eq_true, beq_iff_eq] at h
    obtain ⟨⟨rfl, h1⟩, h2⟩ := h
    exact ⟨_, _, rfl, h1, h2⟩
  · cases h
/-- x.f, x an instance of c -/
def Xp.at (c f : Nat) (x : Xo) : Xp where
  sem r h := (x.sem r h).bind fun d h1 => ofO (on1 (fldE c f) h1 d) h1
  ok := attB (nmF f) x.ok
  need t := FldL t c f ∧ x.need t
  star _ a h := by obtain ⟨y, p, rfl, _⟩ := attB_some h; rfl
  snd {X G ck k Wx a} C h n := by
    obtain ⟨y, p, rfl, hx, hb⟩ := attB_some h
    refine ⟨fun pins s σ H Qv I ⟨r, hh, M, rl, re, k⟩ => attr_of (base_of hb) (thn ((x.snd C hx n.2).run pins s σ H (fun v H1 => ∃ d h1 M1, RL G h1 M1 H1 ∧ RB G M1 H1 d v ∧ KG (RV G) G Wx σ M1 H1 Qv (ofO (on1 (fldE c f) h1 d) h1)) I ⟨r, hh, M, rl, re, one k fun d v h1 M1 H1 e1 r1 b1 k1 => ⟨d, h1, M1, r1, b1, k1⟩⟩) fun u s1 ⟨v, H1, I1, ru, d, h1, M1, r1, b1, k1⟩ => ?_)⟩
    unfold on1 at k1
    cases e1 : vw h1 d with
    | none => rw [e1] at k1; exact k1.elim
    | some d' =>
      rw [e1] at k1
      simp only [Option.bind_some] at k1
      cases e2 : fldE c f d' with
      | none => rw [e2] at k1; exact k1.elim
      | some z =>
        rw [e2] at k1
        unfold fldE at e2
        split at e2
        · split at e2
          · rename_i hc
            subst hc
            obtain ⟨a, rfl, ro⟩ := (vw_ok r1 b1 e1).thing trivial
            obtain rfl : u = Value.ref a := ru
            exact getattr_D C.hK n.1 I1 ro e2 fun v u s' I' ru rv => ⟨v, H1, I', ru, k1.here r1 rv⟩
          · cases e2
        · cases e2
end Pf

set_option Elab.async false
set_option linter.all false
set_option maxRecDepth 100000
/-! ## Properties, methods, stores, new instances -/
namespace Pf
open PySem L2
def isIns (c : Nat) : D → Bool
  | .ins c' _ => c' == c
  | _ => false
/-- the class's kind -/
def ClsL (t : Tb) (c : Nat) (C : Addr) : Prop := t.G.mg (nmC c) = some (.ref C) ∧ ((isSl c = false ∧ Cls t.G.K C) ∨ (isSl c = true ∧ SlX.SCls t.G.K C))
/-- the property f of c; F is what its def computes -/
def PropL (t : Tb) (c : Nat) (f : Str) (F : Fsem) : Prop := ∃ C p g fd ps, ClsL t c C ∧ PropOf t.G.K C f p g ∧ Binds t.G.K fd ps [] ∧ FnOk t.P t.w t.G.K t.G.mg t.base (CX t.P t.w) t.k g fd ps (lift t.G F)
/-- the method m of c -/
def MethL (t : Tb) (c : Nat) (m : Str) (F : Fsem) : Prop := ∃ C g fd ps, ClsL t c C ∧ Meth t.G.K C m g ∧ Binds t.G.K fd ps [] ∧ FnOk t.P t.w t.G.K t.G.mg t.base (CX t.P t.w) t.k g fd ps (lift t.G F)
/-- the class c is made by its __init__, which computes F -/
def MkL (t : Tb) (c : Nat) (F : Fsem) : Prop := ∃ C g fd ps, t.G.mg (nmC c) = some (.ref C) ∧ Mk t.G.K C g ∧ Binds t.G.K fd ps [] ∧ FnOk t.P t.w t.G.K t.G.mg t.base (CX t.P t.w) t.k g fd ps (lift t.G F)
theorem RFs.not_in {G : Gx} {M : Mp} {H : Hp} {m : Str} (hm : ∀ i < 33, nmF i ≠ m) : ∀ {l : List (Nat × D)} {xs : List (Str × V)}, RFs G M H l xs → xs.lookup m = none
  | _, _, .nil => rfl
  | _, _, .cons (f := g) n h t => by
    simp only [List.lookup_cons]
    have : (m == nmF g) = false := by rw [beq_eq_false_iff_ne]; exact fun z => hm g n z.symm
    rw [this]
    exact RFs.not_in hm t
section
variable {X : Cx} {G : Gx} {ck : Ck} {k : Nat} {Wx : WX} {σ : St} {H : Hp} {M : Mp} {h : Hh}
theorem getprop_D (C : Cok X G ck k Wx) {pins : List (Addr × Obj)} {s : Shared} {c : Nat} {f : Str} {F : Fsem} {d d' : D} {v : V} {u : Value} {b : Bool} {Qv : VK} (t : PropL (tbOf X G k) c f F) (I : Inv X pins σ H s) (rl : RL G h M H) (rv : RV G M H d v) (ru : RelV v u) (e : vw h d = some d') (hi : isIns c d' = true)
    (q : KG (RV G) G Wx σ M H Qv (noX (F [d] h))) : wpAny (model X.prog X.w) X.A (getAttr u f b) (EP X pins σ Qv) X.xe s := by
  obtain ⟨Ca, p, g, fd, ps, ⟨hm, hc⟩, hp, hb, Fo⟩ := t
  dsimp only at hm hc hp hb Fo
  rw [C.hK] at hc hp hb Fo
  rw [C.hmg] at Fo
  cases d' <;> simp only [isIns, Bool.false_eq_true] at hi
  have hi := eq_of_beq hi
  subst hi
  obtain ⟨a, rfl, ro⟩ := (vw_ok rl (.inl rv) e).thing trivial
  obtain rfl : u = Value.ref a := ru
  have hs : lift G F [.ref a] H Qv (fun _ _ _ => False) := ⟨[d], h, M, rl, .cons rv .nil, by
    cases q2 : F [d] h with
    | no => rw [q2] at q; exact q
    | exc c fs h' => rw [q2] at q; exact q.elim
    | ok z h' => rw [q2] at q; exact q⟩
  rcases hc with ⟨s1, cl⟩ | ⟨s1, cl⟩
  · cases ro with
    | ins i m hh r =>
      rw [hm] at m; cases m
      exact getprop_ok I hh cl hp Fo (C.room.mono (by omega)) hb .nil (fun pins σ H s e s' _ ⟨_, _, _, _, _, _, _, _, _, _, _, _, z⟩ => z) hs
    | sl0 i m hh => rw [s1] at i; cases i
    | sl1 i m hh _ _ _ _ => rw [s1] at i; cases i
  · have FR : FnR X.prog X.w X.K X.mg X.base (L2.CX X.prog X.w) k g (fun vs H Q E => lift G F (vs ++ []) H Q E) := FnOk.raw Fo hb .nil
    have hx : ∀ (H : Hp) (s : Shared) (e : Value) (s' : Shared), L2.CX X.prog X.w X.stack H s (fun _ _ _ => False) e s' → False := fun H s e s' ⟨_, _, _, _, _, _, _, _, _, _, _, _, z⟩ => z
    cases ro with
    | ins i m hh r => rw [s1] at i; cases i
    | sl0 i m hh =>
      rw [hm] at m; cases m
      exact SlX.getprop_sl I (.inl ⟨hh, rfl⟩) cl hp.at_ hp.get hp.tak hp.rec_ FR (C.room.mono (by omega)) hx hs
    | sl1 i m hh hF hxd so r =>
      rw [hm] at m; cases m
      exact SlX.getprop_sl I (.inr ⟨hh, hxd⟩) cl hp.at_ hp.get hp.tak hp.rec_ FR (C.room.mono (by omega)) hx hs
end
/-- x.f, a property -/
def Xp.prop (c : Nat) (f : Str) (F : Fsem) (x : Xp) : Xp where
  sem r h := (x.sem r h).bind fun d h1 => match vw h1 d with
    | some d' => if isIns c d' then noX (F [d] h1) else .no
    | none => .no
  ok := attB f x.ok
  need t := PropL t c f F ∧ x.need t
  star _ a h := by obtain ⟨y, p, rfl, _⟩ := attB_some h; rfl
  snd {X G ck k Wx a} C h n := by
    obtain ⟨y, p, rfl, hx, hb⟩ := attB_some h
    refine ⟨fun pins s σ H Qv I ⟨r, hh, M, rl, re, k⟩ => attr_of (base_of hb) (thn ((x.snd C hx n.2).run pins s σ H (fun v H1 => ∃ d h1 M1, RL G h1 M1 H1 ∧ RV G M1 H1 d v ∧ KG (RV G) G Wx σ M1 H1 Qv (match vw h1 d with
      | some d' => if isIns c d' then noX (F [d] h1) else .no
      | none => .no)) I ⟨r, hh, M, rl, re, one k fun d v h1 M1 H1 e1 r1 b1 k1 => ⟨d, h1, M1, r1, b1, k1⟩⟩) fun u s1 ⟨v, H1, I1, ru, d, h1, M1, r1, b1, k1⟩ => ?_)⟩
    split at k1
    · rename_i d' e1
      split at k1
      · rename_i hi
        exact getprop_D C n.1 I1 r1 b1 ru e1 hi k1
      · exact k1.elim
    · exact k1.elim
end Pf

set_option Elab.async false
set_option linter.all false
set_option maxRecDepth 100000
/-! ## Methods, stores, new instances -/
namespace Pf
open PySem L2
theorem call_meth {P : Program} {w : World} {A : Around} {E : Value → Shared → Prop} {s : Shared} {env : Env} {o : Expr} {name : Str} {apos pos : Pos} {args : List Expr} {Q : Value → Shared → Prop} (hb : plainBase o = true) (hs : args.all notStar = true) (hl : args.length < 29) (hline : (apos.endLine == pos.line) = true)
    (h : wpAny (model P w) A (eval o env) (fun ov s1 => ∀ pl : Sem Bool, wpAny (model P w) A (getMethod ov name pl) (fun fx s2 => wpAny (model P w) A (callWith pos fx.1 fx.2 (backTo pos (starEach args env)) (backToKw pos (keywordEach [] env))) Q E s2) E s1) E s) :
    wpAny (model P w) A (eval (.Call (.Attribute o name apos) args [] pos) env) Q E s := by
  have few : methodCallForm (args.length + ([] : List Keyword).length) (backTo pos (starEach args env)) (backToKw pos (keywordEach [] env)) = true := by
    unfold methodCallForm
    rw [few_of hs]
    simp [keywordEach, backToKw]
    omega
  rw [arm_eval_Call, base_of hb]
  refine wpAny_bind (wpAny_mono h (fun ov s1 h1 => wpAny_bind (wpAny_standAt ?_)) fun _ _ e => e)
  have hpos : methodCallPos true o env apos pos = pure pos := by unfold methodCallPos; simp [hline]
  unfold methodCall
  rw [few]
  refine wpAny_bind (wpAny_holding (wpAny_mono (h1 _) (fun fx s2 h2 => ?_) fun _ _ e => e))
  exact wpAny_bind (wpAny_of_eq hpos h2)
section
variable {X : Cx} {G : Gx} {ck : Ck} {k : Nat} {Wx : WX} {σ : St} {H : Hp} {M : Mp} {h : Hh}
/-- the method m of the instance at a -/
theorem getmeth_D {pins : List (Addr × Obj)} {s : Shared} {A : Around} {E : Value → Shared → Prop} {c : Nat} {m : Str} {g Ca a : Addr} {fs : List (Nat × D)} {pl : Sem Bool} {Q : Value × List Value → Shared → Prop} (hK : G.K = X.K) (hc : ClsL (tbOf X G k) c Ca) (hm : Meth X.K Ca m g) (hn : ∀ i < 33, nmF i ≠ m) (I : Inv X pins σ H s) (ro : RO G M H a (.ins c fs)) (q : Q (.ref g, [.ref a]) s) : wpAny (model X.prog X.w) A (getMethod (.ref a) m pl) Q E s := by
  obtain ⟨hg, hc⟩ := hc
  dsimp only at hg hc
  rw [hK] at hc
  rcases hc with ⟨s1, cl⟩ | ⟨s1, cl⟩
  · cases ro with
    | ins i mm hh r =>
      rw [hg] at mm; cases mm
      exact getmeth_ok I hh cl hm (r.not_in hn) q
    | sl0 i mm hh => rw [s1] at i; cases i
    | sl1 i mm hh _ _ _ _ => rw [s1] at i; cases i
  · cases ro with
    | ins i mm hh r => rw [s1] at i; cases i
    | sl0 i mm hh =>
      rw [hg] at mm; cases mm
      exact SlX.getmethsl_ok I (.inl ⟨hh, rfl⟩) cl hm q
    | sl1 i mm hh hF hx so r =>
      rw [hg] at mm; cases mm
      exact SlX.getmethsl_ok I (.inr ⟨hh, hx⟩) cl hm q
end
def fresh33 (m : Str) : Bool := (List.range 33).all fun i => !(nmF i == m)
theorem fresh33_ok {m : Str} (h : fresh33 m = true) : ∀ i < 33, nmF i ≠ m := fun i hi z => by
  have := List.all_eq_true.mp h i (by simpa using hi)
  rw [z] at this
  simp at this
def mcB (m : Str) (o : Ck → Expr → Bool) (xs : List Xp) (ck : Ck) (a : Expr) : Bool := match a with
  | .Call (.Attribute y n ap) es [] p => n == m && o ck y && okA xs ck es && decide (es.length < 29) && plainBase y && (ap.endLine == p.line) && fresh33 m
  | _ => false
theorem mcB_some {m : Str} {o : Ck → Expr → Bool} {xs : List Xp} {ck : Ck} {a : Expr} (h : mcB m o xs ck a = true) : ∃ y ap es p, a = .Call (.Attribute y m ap) es [] p ∧ o ck y = true ∧ okA xs ck es = true ∧ es.length < 29 ∧ plainBase y = true ∧ (ap.endLine == p.line) = true ∧ ∀ i < 33, nmF i ≠ m := by
  unfold mcB at h
  split at h
  · simp only [Bool.and_eq_true, beq_iff_eq, decide_eq_true_eq] at h
    obtain ⟨⟨⟨⟨⟨⟨rfl, h1⟩, h2⟩, h3⟩, h4⟩, h5⟩, h6⟩ := h
    exact ⟨_, _, _, _, rfl, h1, h2, h3, h4, by simpa using h5, fresh33_ok h6⟩
  · cases h
/-- o.m(..), o an instance of c; F is what the method computes, of o and the arguments -/
def Xp.mc (c : Nat) (m : Str) (F : Fsem) (o : Xp) (xs : List Xp) : Xp where
  sem r h := (o.sem r h).bind fun d h1 => match vw h1 d with
    | some d' => if isIns c d' then (semA xs r h1).bind fun ds h2 => F (d :: ds) h2 else .no
    | none => .no
  ok := mcB m o.ok xs
  need t := MethL t c m F ∧ o.need t ∧ needA xs t
  star _ a h := by obtain ⟨y, ap, es, p, rfl, _⟩ := mcB_some h; rfl
  snd {X G ck k Wx a} C h n := by
    obtain ⟨y, ap, es, p, rfl, ho, hA, hl, hb, hline, hn⟩ := mcB_some h
    obtain ⟨⟨Ca, g, fd, ps, hc, hm, hbd, Fo⟩, n1, n2⟩ := n
    dsimp only at hm hbd Fo
    rw [C.hK] at hm hbd Fo
    rw [C.hmg] at Fo
    have hst := okA_star hA
    refine ⟨fun pins s σ H Qv I ⟨r, hh, M, rl, re, k⟩ => call_meth hb hst hl hline (thn ((o.snd C ho n1).run pins s σ H (fun v H1 => ∃ d h1 M1, Ext M H M1 H1 ∧ RL G h1 M1 H1 ∧ RV G M1 H1 d v ∧ KG (RV G) G Wx σ M1 H1 Qv (match vw h1 d with
      | some d' => if isIns c d' then (semA xs r h1).bind fun ds h2 => F (d :: ds) h2 else .no
      | none => .no)) I ⟨r, hh, M, rl, re, one k fun d v h1 M1 H1 e1 r1 b1 k1 => ⟨d, h1, M1, e1, r1, b1, k1⟩⟩) fun u s1 ⟨v, H1, I1, ru, d, h1, M1, e1, r1, b1, k1⟩ pl => ?_)⟩
    split at k1
    · rename_i d' e2
      split at k1
      · rename_i hi
        cases d' <;> simp only [isIns, Bool.false_eq_true] at hi
        have hi := eq_of_beq hi
        subst hi
        obtain ⟨a, rfl, ro⟩ := (vw_ok r1 (.inl b1) e2).thing trivial
        obtain rfl : u = Value.ref a := ru
        refine getmeth_D C.hK hc hm hn I1 ro ?_
        have fin : ∀ {H2 : Hp} {s2 : Shared} {vs : List V} {us : List Value}, Inv X pins σ H2 s2 → Vals vs us → (∃ ds h2 M2, Ext M1 H1 M2 H2 ∧ RL G h2 M2 H2 ∧ RVs G M2 H2 ds vs ∧ KG (RV G) G Wx σ M2 H2 Qv (F (d :: ds) h2)) → wpAny (model X.prog X.w) X.A (PySem.call (.ref g) (.ref a :: us)) (EP X pins σ Qv) X.xe s2 := by
          intro H2 s2 vs us I2 rv ⟨ds, h2, M2, e2, r2, rd, w2⟩
          exact run_L C Fo hbd I2 (vs := .ref a :: vs) (.cons rfl rv) r2 (.cons (b1.ext C.gk r1 e2) rd) w2
        cases es with
        | nil =>
          refine PySem.W.callWith_K0 (first := [.ref a]) I1.kIn hm.kp ?_
          cases xs with
          | nil => exact fin I1 .nil ⟨[], h1, M1, Ext.refl, r1, .nil, k1⟩
          | cons a b => simp [okA] at hA
        | cons e es =>
          simp only [List.all_cons, Bool.and_eq_true] at hst
          exact PySem.W.callWith_K (first := [.ref a]) (h₀ := X.base) I.ok.mod.kin hm.kp (thn ((sndA xs C hA n2).run p pins s1 σ H1 (fun vs H2 => ∃ ds h2 M2, Ext M1 H1 M2 H2 ∧ RL G h2 M2 H2 ∧ RVs G M2 H2 ds vs ∧ KG (RV G) G Wx σ M2 H2 Qv (F (d :: ds) h2)) I1 ⟨r, h1, M1, r1, re.ext C.gk rl e1, one k1 fun ds vs h2 M2 H2 e2 r2 b2 k2 => ⟨ds, h2, M2, e2, r2, b2, k2⟩⟩) fun us s2 ⟨vs, H2, I2, rv, q⟩ => ⟨I2.kIn, fin I2 rv q⟩) (star_cons hst.1 _) (stars_of hst.2)
      · exact k1.elim
    · exact k1.elim
end Pf

set_option Elab.async false
set_option linter.all false
set_option maxRecDepth 100000
/-! ## Stores to fields, new instances -/
namespace Pf
open PySem L2
def putD (f : Nat) (v : D) : List (Nat × D) → List (Nat × D)
  | [] => [(f, v)]
  | (g, x) :: r => if g = f then (g, v) :: r else (g, x) :: putD f v r
theorem RFs.put {G : Gx} {M : Mp} {H : Hp} {f : Nat} {d : D} {y : V} (hf : f < 33) (rv : RV G M H d y) : ∀ {l : List (Nat × D)} {xs : List (Str × V)}, RFs G M H l xs → RFs G M H (putD f d l) (putF (nmF f) y xs)
  | _, _, .nil => .cons hf rv .nil
  | _, _, .cons (f := g) n h t => by
    unfold putD putF
    by_cases e : g = f
    · subst e; simp only [if_true]; exact .cons n rv t
    · have e2 : nmF g ≠ nmF f := fun z => e (nmF_inj n hf z)
      simp only [e, e2, if_false]
      exact .cons n h (RFs.put hf rv t)
theorem RFs.len {G : Gx} {M : Mp} {H : Hp} : ∀ {l : List (Nat × D)} {xs : List (Str × V)}, RFs G M H l xs → l.length = xs.length
  | _, _, .nil => rfl
  | _, _, .cons _ _ t => by simp [t.len]
theorem look_mem {x i : Nat} : ∀ {l : List (Nat × Nat)}, l.lookup x = some i → i ∈ l.map (·.2)
  | [], h => by simp at h
  | (k, j) :: l, h => by
    simp only [List.lookup_cons] at h
    cases e : x == k with
    | true => rw [e] at h; cases h; exact List.mem_cons_self
    | false => rw [e] at h; exact List.mem_cons_of_mem _ (look_mem h)
theorem look_inj {f g i : Nat} : ∀ {l : List (Nat × Nat)}, (l.map (·.2)).Nodup → l.lookup f = some i → l.lookup g = some i → f = g
  | [], _, h, _ => by simp at h
  | (k, j) :: l, n, h1, h2 => by
    simp only [List.map_cons, List.nodup_cons] at n
    simp only [List.lookup_cons] at h1 h2
    cases e1 : f == k with
    | true =>
      cases e2 : g == k with
      | true => rw [eq_of_beq e1, eq_of_beq e2]
      | false =>
        rw [e1] at h1; rw [e2] at h2
        cases h1
        exact absurd (look_mem h2) n.1
    | false =>
      rw [e1] at h1
      cases e2 : g == k with
      | true =>
        rw [e2] at h2
        cases h2
        exact absurd (look_mem h1) n.1
      | false =>
        rw [e2] at h2
        exact look_inj n.2 h1 h2
theorem slTab_nd (c : Nat) : ((slTab c).map (·.2)).Nodup := by
  unfold slTab
  split <;> decide
theorem SlotsOk.put {c f i : Nat} {vs : List (Str × V)} {ws : List (Option V)} {y : V} (hf : f < 33) (hi : (slTab c).lookup f = some i) (h : SlotsOk c vs ws) : SlotsOk c (putF (nmF f) y vs) (SlX.putS i y ws) := by
  intro g v hg e
  rw [lookup_putF] at e
  split at e
  · rename_i hz
    cases e
    rw [nmF_inj hg hf hz]
    exact ⟨i, hi, SlX.putS_get i y ws⟩
  · rename_i hz
    obtain ⟨j, h1, h2⟩ := h g v hg e
    refine ⟨j, h1, (SlX.putS_ne (fun z => ?_)).mpr h2⟩
    subst z
    exact hz (by rw [look_inj (slTab_nd c) h1 hi])
section
variable {X : Cx} {G : Gx} {ck : Ck} {k : Nat} {Wx : WX} {σ : St} {H : Hp} {M : Mp} {h : Hh}
/-- the dict of an instance with slots is written no more from here on -/
theorem own_ne {b a dx : Addr} {o : HO} (hd : H dx = some (.own a)) (e : H b = some o) (y : ∀ z, o ≠ .own z) : b ≠ dx := fun z => by
  subst z; rw [hd] at e; cases e; exact y a rfl
theorem setattr_D (gk : Gk G) {pins : List (Addr × Obj)} {s : Shared} {A : Around} {E : Value → Shared → Prop} {c f i : Nat} {d : D} {fs : List (Nat × D)} {a : Addr} {y : V} {u : Value} {Q : Unit → Shared → Prop} (hK : G.K = X.K) (t : FldL (tbOf X G k) c f) (I : Inv X pins σ H s) (rl : RL G h M H) (hb : M.bs[i]? = some a) (ho : h[i]? = some (.ins c fs)) (hl : fs.length < 900) (rv : RV G M H d y) (ru : RelV y u)
    (q : ∀ M' H' s', Inv X pins σ H' s' → Ext M H M' H' → RL G (h.set i (.ins c (putD f d fs))) M' H' → Q () s') : wpAny (model X.prog X.w) A (setAttr (.ref a) (nmF f) u) Q E s := by
  have hm : a ∈ M.bs := List.mem_iff_getElem?.mpr ⟨i, hb⟩
  have ro := rl.look ho hb
  obtain ⟨hf, C, hg, ⟨hs, cl, na⟩ | ⟨hs, cl, p, j, sl, hj⟩⟩ := t
  · dsimp only at cl na hg
    rw [hK] at cl na
    cases ro with
    | ins i2 m hh r =>
      rw [hg] at m; cases m
      refine setattr_ok I hh cl na (by rw [← r.len]; omega) ru fun s' I' => q M _ s' I' (Ext.chg hm) (rl.chg gk hb (.ins i2 hg upd_same ((r.put hf rv).keep gk (Keep.chg rl hm))))
    | sl0 i2 m hh => rw [hs] at i2; cases i2
    | sl1 i2 m hh _ _ _ _ => rw [hs] at i2; cases i2
  · dsimp only at cl sl hg
    rw [hK] at cl sl
    cases ro with
    | ins i2 m hh r => rw [hs] at i2; cases i2
    | sl0 i2 m hh =>
      rename_i C' dx
      rw [hg] at m; cases m
      obtain ⟨hd, _, hne, _⟩ := I.hok a _ hh
      refine SlX.setslot_ok I (.inl ⟨hh, rfl⟩) cl sl ru fun s' I' => q (M.fr dx) _ s' I' ?_ ?_
      · refine ⟨fun b o e n y => ?_, fun b e => ?_, fun b e => .inl e, ⟨[], by simp [Mp.fr], by simp⟩, fun b e => ?_⟩
        · exact (SlX.slH_ne (fun (z : b = a) => n (by rw [z]; exact hm)) (own_ne hd e y)).trans e
        · unfold SlX.slH at e
          by_cases z : b = a
          · subst z; rw [upd_same] at e; cases e
          · rw [upd_ne z] at e
            by_cases w : b = dx
            · subst w; rw [upd_same] at e; cases e
            · rw [upd_ne w] at e; exact e
        · rcases e with e | e
          · exact .inl e
          · subst e; exact .inr (.inr (.inr ⟨a, hd⟩))
      · have kp : Keep M H (M.fr dx) (SlX.slH H a C dx (SlX.putS j y [])) := ⟨fun b z => ⟨.inl z, fun o e => by
          obtain ⟨o', e', y'⟩ := rl.fz b z
          rw [e] at e'; cases e'
          exact (SlX.slH_ne (fun (w : b = a) => rl.off a hm (by rw [← w]; exact z)) (own_ne hd e y')).trans e⟩, fun _ _ w => w⟩
        refine ⟨by simp [rl.len, Mp.fr], fun j2 o e => ?_, rl.nd, fun b hb' z => ?_, fun b z => ?_⟩
        · by_cases z : i = j2
          · subst z
            rw [List.getElem?_set_self (List.getElem?_eq_some_iff.mp ho).1] at e
            cases e
            refine ⟨a, hb, .sl1 i2 hg (by unfold SlX.slH; exact upd_same) (.inr rfl) (by unfold SlX.slH; rw [upd_ne hne, upd_same]) (SlotsOk.put hf hj (vs := []) (fun g v _ e => by simp at e)) ?_⟩
            exact RFs.put hf (rv.keep gk kp) .nil
          · rw [List.getElem?_set_ne z] at e
            obtain ⟨b, hb2, ro2⟩ := rl.at_ j2 o e
            obtain ⟨w, hw, hy⟩ := ro2.some
            have hne2 : b ≠ a := fun w => by
              subst w
              have g1 := List.getElem?_eq_some_iff.mp hb
              have g2 := List.getElem?_eq_some_iff.mp hb2
              exact z ((List.getElem_inj rl.nd (h₀ := g1.1) (h₁ := g2.1)).mp (g1.2.trans g2.2.symm))
            exact ⟨b, hb2, ro2.keep gk kp fun u2 e2 => (SlX.slH_ne hne2 (own_ne hd hw hy)).trans e2⟩
        · rcases z with z | z
          · exact rl.off b hb' z
          · subst z
            obtain ⟨w, hw, hy⟩ := rl.tracked hb'
            rw [hd] at hw; cases hw; exact hy a rfl
        · rcases z with z | z
          · obtain ⟨o, e, y'⟩ := rl.fz b z
            exact ⟨o, (kp.k b z).2 o e, y'⟩
          · subst z; exact ⟨.xd [], by unfold SlX.slH; rw [upd_ne hne, upd_same], fun _ z => nomatch z⟩
    | sl1 i2 m hh hF hx so r =>
      rename_i C' dx vs ws
      rw [hg] at m; cases m
      have hne : dx ≠ a := fun z => rl.off a hm (by rw [← z]; exact hF)
      have eH : SlX.slH H a C dx (SlX.putS j y ws) = upd H a (SlX.SlO a C dx (SlX.putS j y ws)) := by
        funext b
        unfold SlX.slH
        by_cases z : b = a
        · subst z; rw [upd_same, upd_same]
        · rw [upd_ne z, upd_ne z]
          by_cases w : b = dx
          · subst w; rw [upd_same]; exact hx.symm
          · rw [upd_ne w]
      refine SlX.setslot_ok I (.inr ⟨hh, hx⟩) cl sl ru fun s' I' => ?_
      rw [eH] at I'
      have kp := Keep.chg (o := SlX.SlO a C dx (SlX.putS j y ws)) rl hm
      exact q M _ s' I' (Ext.chg hm) (rl.chg gk hb (.sl1 i2 hg upd_same hF ((kp.k dx hF).2 _ hx) (so.put hf hj) ((r.put hf rv).keep gk kp)))
end
def setAB (n : Str) (o e : Ck → Expr → Bool) (ck : Ck) (st : Stmt) : Bool := match st with
  | .Assign [.Attribute y m _] v _ => m == n && o ck y && e ck v && notComp v
  | _ => false
/-- o.f = e, o an instance of c that stands in the heap -/
def Sm.setA (c f : Nat) (o e : Xp) : Sm where
  sem r h := (e.sem r h).st r fun d h1 => (o.sem r h1).st r fun x h2 => match x with
    | .ref i => (match h2[i]? with
      | some (.ins c' fs) => if c' = c ∧ fs.length < 900 then .nx r (h2.set i (.ins c (putD f d fs))) else .no
      | _ => .no)
    | _ => .no
  ok := setAB (nmF f) o.ok e.ok
  need t := FldL t c f ∧ o.need t ∧ e.need t
  snd {X G ck k Wx st} C hk h n := by
    unfold setAB at h
    split at h
    · rename_i y m p v q
      simp only [Bool.and_eq_true, beq_iff_eq] at h
      obtain ⟨⟨⟨rfl, ho⟩, he⟩, h3⟩ := h
      refine ⟨fun pins s σ H Dn I ⟨M0, H0, r, hh, M, sv, k⟩ => plainObj_wpAny_Assign_Attribute (thn ((e.snd C he n.2.2).run pins s σ H (fun v H1 => ∃ d h1 M1, Sv G M0 H0 r h1 M1 σ H1 ∧ RV G M1 H1 d v ∧ KO G Wx M0 H0 M1 H1 Dn ((o.sem r h1).st r fun x h2 => match x with
        | .ref i => (match h2[i]? with
          | some (.ins c' fs) => if c' = c ∧ fs.length < 900 then .nx r (h2.set i (.ins c (putD f d fs))) else .no
          | _ => .no)
        | _ => .no)) I ⟨r, hh, M, sv.rl, sv.re, oneS C.gk sv k fun d v h1 M1 H1 e1 s1 rv k1 => ⟨d, h1, M1, s1, rv, k1⟩⟩) fun u s1 ⟨v, H1, I1, ru, d, h1, M1, sv1, rv, k1⟩ => thn ((o.snd C ho n.2.1).run pins s1 σ H1 (fun x H2 => ∃ z h2 M2, Ext M1 H1 M2 H2 ∧ Sv G M0 H0 r h2 M2 σ H2 ∧ RV G M2 H2 z x ∧ KO G Wx M0 H0 M2 H2 Dn (match z with
        | .ref i => (match h2[i]? with
          | some (.ins c' fs) => if c' = c ∧ fs.length < 900 then .nx r (h2.set i (.ins c (putD f d fs))) else .no
          | _ => .no)
        | _ => .no)) I1 ⟨r, h1, M1, sv1.rl, sv1.re, oneS C.gk sv1 k1 fun z x h2 M2 H2 e2 s2 rz k2 => ⟨z, h2, M2, e2, s2, rz, k2⟩⟩) fun ov s2 ⟨x, H2, I2, rx, z, h2, M2, e2, sv2, rz, k2⟩ => ?_) ?_⟩
      · split at k2
        · rename_i i
          split at k2
          · rename_i c' fs hi
            split at k2
            · rename_i hc
              obtain ⟨rfl, hl⟩ := hc
              cases rz with
              | ref hb =>
                obtain rfl : ov = Value.ref _ := rx
                exact setattr_D C.gk C.hK n.1 I2 sv2.rl hb hi hl (rv.ext C.gk sv1.rl e2) ru fun M' H' s' I' e' rl' => ⟨σ, H', I', k2 σ M' H' (e'.kp sv2.rl) (sv2.step C.gk e' rl')⟩
            · exact k2.elim
          · exact k2.elim
        · exact k2.elim
      · cases v <;> first | rfl | (simp [notComp] at h3)
    · cases h
end Pf

set_option Elab.async false
set_option linter.all false
set_option maxRecDepth 100000
/-! ## New instances -/
namespace Pf
open PySem L2
section
variable {X : Cx} {G : Gx} {ck : Ck} {k : Nat} {Wx : WX} {σ : St} {H : Hp} {M : Mp} {h : Hh}
/-- a class is called: its __init__ at the new instance -/
theorem make_D (C : Cok X G ck k Wx) {c : Nat} {F : Fsem} {Ca : Addr} {pins : List (Addr × Obj)} {s : Shared} {us : List Value} {vs : List V} {Qv : VK} (t : MkL (tbOf X G k) c F) (hm : X.mg (nmC c) = some (.ref Ca)) (I : Inv X pins σ H s) (r : Vals vs us)
    (q : ∀ x dx, H x = none → H dx = none → dx ≠ x → lift G F (.ref x :: vs) (upd (upd H dx (.own x)) x (.ins Ca dx [])) (fun v H2 => v = .non ∧ Qv (.ref x) H2) (fun cls d H' => Wx cls d σ H')) :
    wpAny (model X.prog X.w) X.A (call (.ref Ca) us) (EP X pins σ Qv) X.xe s := by
  obtain ⟨Cb, g, fd, ps, hg, mk, hb, Fo⟩ := t
  dsimp only at hg mk hb Fo
  rw [C.hmg, hm] at hg
  cases hg
  rw [C.hK] at mk hb Fo
  rw [C.hmg] at Fo
  have fx := I.hok.fresh (Nat.le_succ s.heap.objs.size)
  have fd' := I.hok.fresh (Nat.le_refl s.heap.objs.size)
  have sp := q (s.heap.objs.size + 1) s.heap.objs.size fx fd' (Nat.ne_of_lt (Nat.lt_succ_self _))
  have J := Inv.made (C := Ca) I
  have rr : Vals (V.ref (s.heap.objs.size + 1) :: vs) (Value.ref (s.heap.objs.size + 1) :: us) := .cons rfl r
  have ln := Fo.len _ _ _ _ sp
  have bd := hb _ (Value.ref (s.heap.objs.size + 1) :: us) J.kIn (by rw [List.append_nil, ← rr.length]; exact ln)
  rw [List.append_nil] at bd
  have run := Fo.run _ X.stack _ _ ⟨Value.ref (s.heap.objs.size + 1) :: us, []⟩ _ _ _ _ ((C.room.mono (show k + 1 ≤ k + 2 by omega)).make Ca us []) (J.env0.make Ca us []) bd rr sp
  refine wpAny_call (make_map (f := g) I.kIn mk.makes mk.init (beq_iff_eq.mp mk.fn) (codeAny_mono run fun o s' hq => ?_))
  cases o with
  | error e => exact C.tk e s' (XE.of_call J (fun cls d H' z => z) hq)
  | ok fl =>
    cases fl with
    | ret u =>
      obtain ⟨v, H', J', rv, rfl, z⟩ := J.after hq
      exact ⟨rv, V.ref _, H', J', rfl, z⟩
    | next => exact hq.elim
    | brk => exact hq.elim
    | cont => exact hq.elim
end
/-- a class that is made: what its __init__ leaves, written no more -/
def mkF (c : Nat) (F : Fsem) : Fsem := fun ds h => if nrs ds then (match F (.ref 0 :: ds) [.ins c []] with
  | .ok .non (o :: _) => if nr o && isIns c o then .ok o h else .no
  | .exc e fs (_ :: _) => if nrf fs then .exc e fs h else .no
  | _ => .no) else .no
/-- .. a thing of the heap -/
def mkH (c : Nat) (F : Fsem) : Fsem := fun ds h => match F (.ref h.length :: ds) (h ++ [.ins c []]) with
  | .ok .non h' => .ok (.ref h.length) h'
  | .exc e fs h' => .exc e fs h'
  | _ => .no
theorem ro_new {G : Gx} {M : Mp} {H : Hp} {c : Nat} {x dx C : Addr} (hm : G.mg (nmC c) = some (.ref C)) (h : H x = some (.ins C dx [])) : RO G M H x (.ins c []) := by
  cases e : isSl c with
  | false => exact .ins e hm h .nil
  | true => exact .sl0 e hm h
section
variable {G : Gx} {H : Hp} {M : Mp} {h : Hh} {x dx C : Addr} {o : HO}
abbrev newI (H : Hp) (C x dx : Addr) : Hp := upd (upd H dx (.own x)) x (.ins C dx [])
theorem newI_ne {b : Addr} (h1 : b ≠ x) (h2 : b ≠ dx) : newI H C x dx b = H b := by unfold newI; rw [upd_ne h1, upd_ne h2]
theorem newI_keep (hx : H x = none) (hd : H dx = none) {b : Addr} {o : HO} (e : H b = some o) : newI H C x dx b = some o := (newI_ne (ne_of_none e hx) (ne_of_none e hd)).trans e
theorem Ext.newI (hx : H x = none) (hd : H dx = none) : Ext M H M (newI H C x dx) where
  keep := fun b o e _ _ => newI_keep hx hd e
  trk := fun b e => by
    by_cases z : b = x
    · subst z; exact hx
    · unfold Pf.newI at e
      rw [upd_ne z] at e
      by_cases w : b = dx
      · subst w; exact hd
      · rw [upd_ne w] at e; exact e
  fz := fun b e => e
  pre := ⟨[], by simp, by simp⟩
  newF := fun b e => .inl e
theorem RL.newI (gk : Gk G) (rl : RL G h M H) (hx : H x = none) (hd : H dx = none) : RL G h M (newI H C x dx) where
  len := rl.len
  at_ := fun i o e => by
    obtain ⟨a, ha, ro⟩ := rl.at_ i o e
    exact ⟨a, ha, ro.keep gk ⟨fun a z => ⟨z, fun o e => newI_keep hx hd e⟩, fun _ _ w => w⟩ fun u e => newI_keep hx hd e⟩
  nd := rl.nd
  off := rl.off
  fz := fun a z => by
    obtain ⟨o, e, y⟩ := rl.fz a z
    exact ⟨o, newI_keep hx hd e, y⟩
theorem Keep.newI (hx : H x = none) (hd : H dx = none) : Keep M H M (newI H C x dx) := ⟨fun a z => ⟨z, fun o e => newI_keep hx hd e⟩, fun _ _ w => w⟩
end
theorem lift_mkF {G : Gx} (gk : Gk G) {F : Fsem} {c : Nat} {C x dx : Addr} {ds : List D} {h : Hh} {M : Mp} {H : Hp} {vs : List V} {Wx : WX} {σ : St} {Qv : VK} (hm : G.mg (nmC c) = some (.ref C)) (rl : RL G h M H) (rd : RVs G M H ds vs) (k : KG (RV G) G Wx σ M H Qv (mkF c F ds h)) (hx : H x = none) (hd : H dx = none) (hne : dx ≠ x) :
    lift G F (.ref x :: vs) (newI H C x dx) (fun v H2 => v = .non ∧ Qv (.ref x) H2) (fun cls d H' => Wx cls d σ H') := by
  unfold mkF at k
  split at k
  · rename_i hn
    have x2 : newI H C x dx x = some (.ins C dx []) := upd_same
    have ro0 : RO G ⟨M.F, [x]⟩ (newI H C x dx) x (.ins c []) := ro_new hm x2
    have rl2 := rl.newI (C := C) gk hx hd
    refine ⟨.ref 0 :: ds, [.ins c []], ⟨M.F, [x]⟩, ⟨rfl, fun j u q => ?_, by simp, fun b z => ?_, rl2.fz⟩, .cons (.ref rfl) (RVs.nr (b1 := M.bs) trivial hn (rd.keep gk (Keep.newI hx hd))), ?_⟩
    · cases j with
      | zero => simp at q; subst q; exact ⟨x, rfl, ro0⟩
      | succ j => simp at q
    · simp at z; subst z; exact rl.freeF hx
    have back : ∀ {M1 : Mp} {H1 : Hp} {o' : D} {hs : Hh}, Ext ⟨M.F, [x]⟩ (newI H C x dx) M1 H1 → RL G (o' :: hs) M1 H1 → Ext M H ⟨fun b => M1.F b ∨ b = x, M.bs⟩ H1 ∧ RL G h ⟨fun b => M1.F b ∨ b = x, M.bs⟩ H1 ∧ M1.bs[0]? = some x := by
      intro M1 H1 o' hs e r1
      have h0 : M1.bs[0]? = some x := e.get (i := 0) rfl
      have nx : x ∉ M.bs := rl.free hx
      have xm : x ∈ M1.bs := List.mem_iff_getElem?.mpr ⟨0, h0⟩
      have off : ∀ a ∈ M.bs, ¬ M1.F a := fun a ha z => by
        obtain ⟨u, q, y⟩ := rl.tracked ha
        have q2 : newI H C x dx a = some u := newI_keep hx hd q
        rcases e.newF a z with w | w | w | ⟨b, w⟩
        · exact rl.off a ha w
        · simp at w; subst w; exact nx ha
        · rw [q2] at w; cases w
        · rw [q2] at w; cases w; exact y b rfl
      have kp : ∀ b u, H b = some u → (∀ y, u ≠ .own y) → H1 b = some u := fun b u q y => e.keep b u (newI_keep hx hd q) (fun w => by simp at w; subst w; rw [hx] at q; cases q) y
      have ex : Ext M H ⟨fun b => M1.F b ∨ b = x, M.bs⟩ H1 := ⟨fun b u q _ y => kp b u q y, fun b q => (Ext.newI (M := M) (C := C) hx hd).trk b (e.trk b q), fun b z => .inl (e.fz b z), ⟨[], by simp, by simp⟩, fun b z => by
        rcases z with z | z
        · rcases e.newF b z with w | w | w | ⟨y, w⟩
          · exact .inl w
          · simp at w; subst w; exact .inr (.inr (.inl hx))
          · exact .inr (.inr (.inl ((Ext.newI (M := M) (C := C) hx hd).trk b w)))
          · by_cases z1 : b = x
            · subst z1; exact .inr (.inr (.inl hx))
            · by_cases z2 : b = dx
              · subst z2; exact .inr (.inr (.inl hd))
              · rw [newI_ne z1 z2] at w; exact .inr (.inr (.inr ⟨y, w⟩))
        · subst z; exact .inr (.inr (.inl hx))⟩
      refine ⟨ex, ⟨rl.len, fun i o q => ?_, rl.nd, fun b hb z => ?_, fun b z => ?_⟩, h0⟩
      · obtain ⟨a, ha, ro⟩ := rl.at_ i o q
        obtain ⟨u, hu, hy⟩ := ro.some
        exact ⟨a, ha, ro.keep gk (ex.kp rl) fun w z => kp a w z (by rw [hu] at z; cases z; exact hy)⟩
      · rcases z with z | z
        · exact off b hb z
        · subst z; exact nx hb
      · rcases z with z | z
        · exact r1.fz b z
        · subst z
          exact r1.tracked xm
    split at k
    · rename_i o1 hs q
      rw [q]
      split at k
      · rename_i hd1
        simp only [Bool.and_eq_true] at hd1
        intro v M1 H1 e r1 rv
        obtain ⟨e2, r2, h0⟩ := back e r1
        cases rv
        refine ⟨rfl, k (.ref x) _ H1 e2 r2 ?_⟩
        have ro : RO G M1 H1 x o1 := r1.look (i := 0) rfl h0
        have ro2 : RO G ⟨M1.F, M.bs⟩ H1 x o1 := RO.nr (b1 := M1.bs) trivial hd1.1 ro
        exact RO.fz (M := ⟨M1.F, M.bs⟩) gk ro2
      · exact k.elim
    · rename_i e1 fs o1 hs q
      rw [q]
      split at k
      · rename_i hd1
        intro cls dd M1 H1 e r1 rx
        obtain ⟨e2, r2, h0⟩ := back e r1
        refine k cls dd _ H1 e2 r2 ?_
        have rx2 : RX G ⟨M1.F, M.bs⟩ H1 e1 fs cls dd := RX.nr (b1 := M1.bs) hd1 rx
        obtain ⟨Ce, g1, g2, g3⟩ := rx2
        refine ⟨Ce, g1, g2, ?_⟩
        cases dd with
        | none => exact g3
        | some d =>
          obtain ⟨g4, vs2, g5, g6⟩ := g3
          exact ⟨.inl g4, vs2, g5, RFs.keep gk (M := ⟨M1.F, M.bs⟩) (M' := ⟨fun b => M1.F b ∨ b = x, M.bs⟩) ⟨fun a z => ⟨Or.inl z, fun _ w => w⟩, fun _ _ w => w⟩ g6⟩
      · exact k.elim
    · exact k.elim
  · exact k.elim
theorem lift_mkH {G : Gx} (gk : Gk G) {F : Fsem} {c : Nat} {C x dx : Addr} {ds : List D} {h : Hh} {M : Mp} {H : Hp} {vs : List V} {Wx : WX} {σ : St} {Qv : VK} (hm : G.mg (nmC c) = some (.ref C)) (rl : RL G h M H) (rd : RVs G M H ds vs) (k : KG (RV G) G Wx σ M H Qv (mkH c F ds h)) (hx : H x = none) (hd : H dx = none) (hne : dx ≠ x) :
    lift G F (.ref x :: vs) (newI H C x dx) (fun v H2 => v = .non ∧ Qv (.ref x) H2) (fun cls d H' => Wx cls d σ H') := by
  unfold mkH at k
  have x2 : newI H C x dx x = some (.ins C dx []) := upd_same
  have rl2 := rl.newI (C := C) gk hx hd
  have nx : x ∉ M.bs := rl.free hx
  have rl3 := rl2.adopt gk nx (rl.freeF hx) (ro_new (c := c) hm x2)
  have e0 : Ext M H (M.pu x) (newI H C x dx) := (Ext.newI hx hd).adB hx
  have hl : (M.bs ++ [x])[h.length]? = some x := by rw [rl.len]; simp
  refine ⟨.ref h.length :: ds, h ++ [.ins c []], M.pu x, rl3, .cons (.ref hl) (rd.ext gk rl e0), ?_⟩
  split at k
  · rename_i h' q
    rw [q]
    intro v M1 H1 e r1 rv
    cases rv
    exact ⟨rfl, k _ M1 H1 (e0.trans e) r1 (.ref (e.get hl))⟩
  · rename_i c' fs h' q
    rw [q]
    exact fun cls dd M1 H1 e r1 rx => k cls dd M1 H1 (e0.trans e) r1 rx
  · exact k.elim
theorem pe_mk {X : Cx} {G : Gx} {ck : Ck} {k : Nat} {Wx : WX} {c : Nat} {F Fm : Fsem} {xs : List Xp} {a : Expr} (C : Cok X G ck k Wx) (h : callB (nmC c) xs ck a = true) (t : MkL (tbOf X G k) c F) (n : needA xs (tbOf X G k))
    (lf : ∀ {Ca x dx : Addr} {ds : List D} {h : Hh} {M : Mp} {H : Hp} {vs : List V} {σ : St} {Qv : VK}, G.mg (nmC c) = some (.ref Ca) → RL G h M H → RVs G M H ds vs → KG (RV G) G Wx σ M H Qv (Fm ds h) → H x = none → H dx = none → dx ≠ x → lift G F (.ref x :: vs) (newI H Ca x dx) (fun v H2 => v = .non ∧ Qv (.ref x) H2) (fun cls d H' => Wx cls d σ H')) :
    PE X a (tG (RV G) G Wx fun r h => (semA xs r h).bind fun ds h1 => Fm ds h1) := by
  obtain ⟨p, es, q, rfl, hg, ho⟩ := callB_some h
  obtain ⟨g1, g2, g3⟩ := gl_of C hg
  have t' := t
  obtain ⟨Ca, g, fd, ps, hm, mk, hb, Fo⟩ := t'
  dsimp only at hm mk
  have hm2 : X.mg (nmC c) = some (.ref Ca) := by rw [← C.hmg]; exact hm
  have kp : PySem.W.keepIn X.K (.ref Ca) = true := by rw [← C.hK]; exact mk.kp
  have hst := okA_star ho
  refine ⟨fun pins s σ H Qv I ⟨r, hh, M, rl, re, kk⟩ => wpAny_Call_Name_kw (ld_glob I g1 hm2 ?_ g2)⟩
  have fin : ∀ {H1 : Hp} {s1 : Shared} {vs : List V} {us : List Value}, Inv X pins σ H1 s1 → Vals vs us → (∃ ds h1 M1, RL G h1 M1 H1 ∧ RVs G M1 H1 ds vs ∧ KG (RV G) G Wx σ M1 H1 Qv (Fm ds h1)) → wpAny (model X.prog X.w) X.A (PySem.call (.ref Ca) us) (EP X pins σ Qv) X.xe s1 := by
    intro H1 s1 vs us I1 rv ⟨ds, h1, M1, r1, rd, w1⟩
    exact make_D C t hm2 I1 rv fun x dx e1 e2 e3 => lf hm r1 rd w1 e1 e2 e3
  cases es with
  | nil =>
    refine PySem.W.callWith_K0 I.kIn kp ?_
    cases xs with
    | nil => exact fin I .nil ⟨[], hh, M, rl, .nil, kk⟩
    | cons a b => simp [okA] at ho
  | cons e1 es =>
    simp only [List.all_cons, Bool.and_eq_true] at hst
    exact PySem.W.callWith_K (h₀ := X.base) I.ok.mod.kin kp (thn ((sndA xs C ho n).run q pins s σ H (fun vs H1 => ∃ ds h1 M1, RL G h1 M1 H1 ∧ RVs G M1 H1 ds vs ∧ KG (RV G) G Wx σ M1 H1 Qv (Fm ds h1)) I ⟨r, hh, M, rl, re, one kk fun d v h1 M1 H1 e1 r1 b1 k1 => ⟨d, h1, M1, r1, b1, k1⟩⟩) fun us s1 ⟨vs, H1, I1, r1, q⟩ => ⟨I1.kIn, fin I1 r1 q⟩) (star_cons hst.1 _) (stars_of hst.2)
/-- C(..), written no more -/
def Xp.mkF (c : Nat) (F : Fsem) (xs : List Xp) : Xp where
  sem r h := (semA xs r h).bind fun ds h1 => Pf.mkF c F ds h1
  ok := callB (nmC c) xs
  need t := MkL t c F ∧ needA xs t
  star _ a h := by obtain ⟨p, es, q, rfl, _⟩ := callB_some h; rfl
  snd C h n := pe_mk C h n.1 n.2 fun hm rl rd k e1 e2 e3 => lift_mkF C.gk hm rl rd k e1 e2 e3
/-- C(..), a thing of the heap -/
def Xp.mkH (c : Nat) (F : Fsem) (xs : List Xp) : Xp where
  sem r h := (semA xs r h).bind fun ds h1 => Pf.mkH c F ds h1
  ok := callB (nmC c) xs
  need t := MkL t c F ∧ needA xs t
  star _ a h := by obtain ⟨p, es, q, rfl, _⟩ := callB_some h; rfl
  snd C h n := pe_mk C h n.1 n.2 fun hm rl rd k e1 e2 e3 => lift_mkH C.gk hm rl rd k e1 e2 e3
end Pf

set_option Elab.async false
set_option linter.all false
set_option maxRecDepth 100000
set_option maxHeartbeats 4000000
/-! ## x * k of tuples and lists; displays with stars -/
namespace Pf
open PySem L2
theorem tuple_mul1 (l : Addr) (items : Array Value) (n : Nat) (dd : Option Addr) (sl : Array (Option Value)) (x : Int) (u : Tok) (c0 : (decide (x < -(2 ^ 63)) || decide (x ≥ 2 ^ 63)) = false) (c1 : (items.isEmpty || x == 1) = true) :
    Meets (Builtin.«tuple.__mul__» ⟨[.ref l, .int x u], []⟩) (fun _ R s => s.heap.get? l = some { cls := .type "tuple", dict := dd, data := .seq items n, slots := sl } ∧ R (.ok (.ret (Value.ref l))) s) :=
  .of_wp fun prog w A R s h => by
    obtain ⟨hp, g, d, tk, os⟩ := s
    obtain ⟨hl, h⟩ := h
    have f1 := AutoSeq1.idx_int
    wp_walk using wpAny_loadPart' hl
    repeat (first
      | (refine wpAny_ite_false (decide_eq_false (by rw [c0]; exact Bool.false_ne_true)) ?_; wp_walk using wpAny_loadPart' hl)
      | (refine wpAny_ite_true (decide_eq_true c1) ?_; wp_walk using wpAny_loadPart' hl))
    exact ⟨_, rfl, h⟩
theorem tuple_mul0 (l : Addr) (items : Array Value) (n : Nat) (dd : Option Addr) (sl : Array (Option Value)) (x : Int) (u : Tok) (c0 : (decide (x < -(2 ^ 63)) || decide (x ≥ 2 ^ 63)) = false) (c1 : (items.isEmpty || x == 1) = false) (c2 : (decide (x ≤ 0) || items.isEmpty) = true) :
    Meets (Builtin.«tuple.__mul__» ⟨[.ref l, .int x u], []⟩) (fun _ R s => s.heap.get? l = some { cls := .type "tuple", dict := dd, data := .seq items n, slots := sl } ∧ R (.ok (.ret (Value.ref s.heap.objs.size))) { s with heap := s.heap.push { cls := Value.type "tuple", data := Data.seq #[] }, toks := s.toks }) :=
  .of_wp fun prog w A R s h => by
    obtain ⟨hp, g, d, tk, os⟩ := s
    obtain ⟨hl, h⟩ := h
    have f1 := AutoSeq1.idx_int
    wp_walk using wpAny_loadPart' hl
    repeat (first
      | (refine wpAny_ite_false (decide_eq_false (by rw [c0]; exact Bool.false_ne_true)) ?_; wp_walk using wpAny_loadPart' hl)
      | (refine wpAny_ite_false (decide_eq_false (by rw [c1]; exact Bool.false_ne_true)) ?_; wp_walk using wpAny_loadPart' hl)
      | (refine wpAny_ite_true (decide_eq_true c2) ?_; wp_walk using wpAny_loadPart' hl)
      | (refine wpAny_ite_false (decide_eq_false (Nat.not_lt.mpr (Nat.zero_le _))) ?_; wp_walk using wpAny_loadPart' hl))
    exact ⟨_, rfl, h⟩
/-- t * k for every k -/
def rRepA (K : PySem.W.Frag) : R2 := fun x y H Q => ∃ l k xs, x = .ref l ∧ y = .int k ∧ SqT K H l xs ∧ -1000 ≤ k ∧ k ≤ 1000 ∧ xs.length ≤ 1000 ∧ ((xs = [] ∨ k = 1) → Q (.ref l) H) ∧ (xs ≠ [] → k ≠ 1 → ∀ p, H p = none → Q (.ref p) (upd H p (.tup (List.replicate k.toNat xs).flatten)))
theorem op_repA {X : Cx} : OpR X (binaryOp .Mult) (rRepA X.K) := by
  intro pins s σ H x y v u Q I rx ry h
  obtain ⟨l, k, xs, rfl, rfl, hT, h0, h1, hz, qs, qn⟩ := h
  by_cases big : xs ≠ [] ∧ 2 ≤ k
  · exact op_repT pins s σ H _ _ v u Q I rx ry ⟨l, k, xs, rfl, rfl, hT, big.1, big.2, h1, hz, qn big.1 (by omega)⟩
  cases rx
  obtain ⟨t, rfl⟩ := ry
  obtain ⟨its, r, ⟨⟨cls, dd, data, sl⟩, ho, hc, n, hd⟩, hs⟩ := I.tuple hT
  simp only at hc hd
  subst hc hd
  have hle : its.length = xs.length := r.length.symm
  have he : its.toArray.isEmpty = true ↔ xs = [] := by
    cases its with
    | nil => simp at hle; simp [List.eq_nil_of_length_eq_zero hle.symm]
    | cons a b =>
      cases xs with
      | nil => simp at hle
      | cons c d => simp
  have c0 : (decide (k < -(2 ^ 63)) || decide (k ≥ 2 ^ 63)) = false := by
    simp only [Bool.or_eq_false_iff, decide_eq_false_iff_not]; omega
  have road : ∀ {R : Value → Shared → Prop}, wpAny (model X.prog X.w) X.A (call (.builtin "tuple.__mul__") [.ref l, .int k t]) R X.xe s → wpAny (model X.prog X.w) X.A (binaryOp .Mult (.ref l) (.int k t)) R X.xe s := fun {R} z =>
    wpAny_binaryOp_repeat_ref (T := "tuple") (U := "int") (by decide) ⟨_, ho, rfl⟩ (fun s' => typeIs_int s' k t) noFill_tuple_mul F.fills_int_mul F.slot_int_rmul repeat_tuple F.slot_int_index.lookup
      (call_meets F.slot_int_rmul (typeIs_int s k t) F.entry_int_rmul (F.args_int_rmul_2 _ _) (int_rmul_tuple k t l its.toArray n dd sl) ⟨ho, rfl, ⟨_, ho, rfl⟩, z⟩)
  by_cases one : xs = [] ∨ k = 1
  · have c1 : (its.toArray.isEmpty || k == 1) = true := by
      rcases one with z | z
      · rw [he.mpr z]; rfl
      · subst z; simp
    exact road (call_meets F.slot_tuple_mul ⟨_, ho, rfl⟩ F.entry_tuple_mul (F.args_tuple_mul_2 _ _) (tuple_mul1 l its.toArray n dd sl k t c0 c1) ⟨ho, ⟨.ref l, H, I, rfl, qs one⟩⟩)
  · have hx : xs ≠ [] := fun z => one (.inl z)
    have hk : k ≠ 1 := fun z => one (.inr z)
    have hk0 : k ≤ 0 := by
      have : ¬ 2 ≤ k := fun z => big ⟨hx, z⟩
      omega
    have hi : its.toArray.isEmpty = false := by
      cases e : its.toArray.isEmpty with
      | false => rfl
      | true => exact absurd (he.mp e) hx
    have c1 : (its.toArray.isEmpty || k == 1) = false := by rw [hi, Bool.false_or]; exact beq_eq_false_iff_ne.mpr hk
    have c2 : (decide (k ≤ 0) || its.toArray.isEmpty) = true := by rw [decide_eq_true hk0]; rfl
    have hn : (List.replicate k.toNat xs).flatten = [] := by rw [show k.toNat = 0 by omega]; rfl
    refine road (call_meets F.slot_tuple_mul ⟨_, ho, rfl⟩ F.entry_tuple_mul (F.args_tuple_mul_2 _ _) (tuple_mul0 l its.toArray n dd sl k t c0 c1 c2) ⟨ho, ?_⟩)
    have qq := qn hx hk s.heap.objs.size (I.hok.fresh (Nat.le_refl _))
    rw [hn] at qq
    exact ⟨.ref s.heap.objs.size, _, I.laid (t' := s.toks) (o := .tup []) (fun b ob q => Heap.get?_push_of_some _ q) (Nat.le_refl _) ⟨Nat.zero_le _, [], .nil, PyProof.Rows.IsTup.new _ _⟩, rfl, qq⟩
def mulE (a b : D) : Option D := match a, b with
  | .int i, .int j => binE .Mult (.int i) (.int j)
  | .tup l, .int k => if -1000 ≤ k ∧ k ≤ 1000 ∧ l.length ≤ 1000 then some (.tup (List.replicate k.toNat l).flatten) else none
  | .lst l, .int k => if -1000 ≤ k ∧ k ≤ 1000 ∧ l.length ≤ 1000 then some (.lst (List.replicate k.toNat l).flatten) else none
  | _, _ => none
theorem RVs.rep {G : Gx} {M : Mp} {H : Hp} {l : List D} {vs : List V} (r : RVs G M H l vs) : ∀ n : Nat, RVs G M H (List.replicate n l).flatten (List.replicate n vs).flatten
  | 0 => .nil
  | n + 1 => by
    simp only [List.replicate_succ, List.flatten_cons]
    exact r.append (RVs.rep r n)
theorem len_rep {α : Type} {l : List α} {k : Int} (h : k ≤ 1000) (hl : l.length ≤ 1000) : l.length * k.toNat ≤ sizeLine := by
  rw [sizeLine_eq]
  have a1 : l.length * k.toNat ≤ 1000 * 1000 := Nat.mul_le_mul hl (by omega)
  omega
/-- the reading of * at a tuple or a list; new: the list is a new thing -/
theorem op_mulA {X : Cx} {G : Gx} (gk : Gk G) (hK : G.K = X.K) : OpR X (binaryOp .Mult) (rD G mulE) := by
  intro pins s σ H x y v u Qv I rx ry ⟨d', e', h, M, z, rl, bd, be, ez, k⟩
  obtain ⟨d, e, ed, ee, w⟩ := on2_some ez
  have rd := vw_ok rl bd ed
  have re := vw_ok rl be ee
  unfold mulE at w
  split at w
  · exact op_bin gk hK .Mult pins s σ H x y v u Qv I rx ry ⟨d', e', h, M, z, rl, bd, be, by unfold on2; rw [ed, ee]; exact w, k⟩
  · split at w
    · rename_i hk
      cases w
      cases re.rv trivial
      cases rd.rv trivial with
      | tup h1 r1 =>
        refine op_repA pins s σ H _ _ v u Qv I rx ry ⟨_, _, _, rfl, rfl, h1.sq hK, hk.1, hk.2.1, by rw [← r1.length]; exact hk.2.2, fun z => ?_, fun _ _ p hp => k.newTup gk rl (r1.rep _) p hp⟩
        rcases z with z | z
        · subst z
          cases r1
          simp only [List.flatten_replicate_nil] at k
          exact k.here rl (.tup h1 .nil)
        · subst z
          simp only [show (1 : Int).toNat = 1 from rfl, List.replicate_succ, List.replicate_zero, List.flatten_cons, List.flatten_nil, List.append_nil] at k
          exact k.here rl (.tup h1 r1)
    · cases w
  · split at w
    · rename_i hk
      cases w
      cases re.rv trivial
      obtain ⟨p, vs, rfl, h1, r1⟩ := rd.lst
      refine op_rep pins s σ H _ _ v u Qv I rx ry ⟨_, _, _, rfl, rfl, h1, by omega, by omega, len_rep hk.2.1 (by rw [← r1.length]; exact hk.2.2), fun p hp => k.newList gk rl (r1.rep _) p hp⟩
    · cases w
  · cases w
/-- x * y, of ints, of a sequence and an int -/
def Xp.mul (x y : Xo) : Xp where
  sem r h := (x.sem r h).bind fun d h1 => (y.sem r h1).bind fun e h2 => ofO (on2 mulE h2 d e) h2
  ok ck a := match a with
    | .BinOp u .Mult v _ => x.ok ck u && y.ok ck v
    | _ => false
  need t := x.need t ∧ y.need t
  star _ a h := by cases a <;> first | rfl | (simp at h)
  snd {X G ck k Wx a} C h n := by
    split at h
    · simp only [Bool.and_eq_true] at h
      exact PE.imp (pe_op (op_mulA C.gk C.hK) (x.snd C h.1 n.1) (y.snd C h.2 n.2)) fun σ H Qv ⟨r, h, M, rl, re, k⟩ => ⟨r, h, M, rl, re, one k fun d v h1 M1 H1 e1 r1 b1 k1 =>
        ⟨r, h1, M1, r1, re.ext C.gk rl e1, one k1 fun e u h2 M2 H2 e2 r2 b2 k2 => fin2 k2 r2 (b1.ext C.gk r1 e2) b2⟩⟩
    · cases h
/-- [..] * k as a new thing -/
def Xn.rep (x : Xo) (y : Xo) : Xn where
  sem r h := (x.sem r h).bind fun d h1 => (y.sem r h1).bind fun e h2 => match vw h2 d, vw h2 e with
    | some (.lst l), some (.int k) => if -1000 ≤ k ∧ k ≤ 1000 ∧ l.length ≤ 1000 then .ok (.lst (List.replicate k.toNat l).flatten) h2 else .no
    | _, _ => .no
  ok ck a := match a with
    | .BinOp u .Mult v _ => x.ok ck u && y.ok ck v
    | _ => false
  need t := x.need t ∧ y.need t
  star _ a h := by cases a <;> first | rfl | (simp at h)
  snd {X G ck k Wx a} C h n := by
    split at h
    · simp only [Bool.and_eq_true] at h
      refine PE.imp (pe_op op_rep (x.snd C h.1 n.1) (y.snd C h.2 n.2)) fun σ H Qv ⟨r, h, M, rl, re, k⟩ => ⟨r, h, M, rl, re, one k fun d v h1 M1 H1 e1 r1 b1 k1 =>
        ⟨r, h1, M1, r1, re.ext C.gk rl e1, one k1 fun e u h2 M2 H2 e2 r2 b2 k2 => ?_⟩⟩
      try dsimp only at k2
      split at k2
      · rename_i l kk q1 q2
        split at k2
        · rename_i hk
          obtain ⟨p, vs, rfl, h1, rv⟩ := (vw_ok r2 (b1.ext C.gk r1 e2) q1).lst
          cases (vw_ok r2 b2 q2).rv trivial
          exact ⟨_, _, _, rfl, rfl, h1, by omega, by omega, len_rep hk.2.1 (by rw [← rv.length]; exact hk.2.2), fun p hp => kn_list C.gk (e1.trans e2) r2 (rv.rep _) k2 p hp⟩
        · exact k2.elim
      · exact k2.elim
    · cases h

/-! ### displays with stars -/
abbrev Xs := Xp ⊕ Xo
def semS : List Xs → Rho → Hh → Res (List D)
  | [], _, h => .ok [] h
  | .inl x :: xs, r, h => (x.sem r h).bind fun d h1 => (semS xs r h1).bind fun ds h2 => .ok (d :: ds) h2
  | .inr x :: xs, r, h => (x.sem r h).bind fun d h1 => (ofO (on1 items h1 d) h1).bind fun l h1 => (semS xs r h1).bind fun ds h2 => .ok (l ++ ds) h2
def okS : List Xs → Ck → List Expr → Bool
  | [], _, es => es.isEmpty
  | .inl x :: xs, ck, es => match es with
    | e :: r => x.ok ck e && okS xs ck r
    | [] => false
  | .inr x :: xs, ck, es => match es with
    | .Starred e _ :: r => x.ok ck e && okS xs ck r
    | _ => false
def needS : List Xs → Tb → Prop
  | [], _ => True
  | .inl x :: xs, t => x.need t ∧ needS xs t
  | .inr x :: xs, t => x.need t ∧ needS xs t
theorem sndS : ∀ (xs : List Xs) {X : Cx} {G : Gx} {ck : Ck} {k : Nat} {Wx : WX} {es : List Expr}, Cok X G ck k Wx → okS xs ck es = true → needS xs (tbOf X G k) → PA X es (tG (RVs G) G Wx (semS xs))
  | [], X, G, ck, k, Wx, es, C, h, n => by
    cases es with
    | cons a b => simp [okS] at h
    | nil => exact PA.imp pa_nil fun σ H Qv ⟨r, h, M, rl, re, k⟩ => k.here rl .nil
  | .inl x :: xs, X, G, ck, k, Wx, es, C, h, n => by
    cases es with
    | nil => simp [okS] at h
    | cons a b =>
      simp only [okS, Bool.and_eq_true] at h
      exact PA.imp (pa_cons (x.snd C h.1 n.1) (sndS xs C h.2 n.2) (star_cons (x.star _ _ h.1) _)) fun σ H Qv ⟨r, h, M, rl, re, k⟩ => ⟨r, h, M, rl, re, one k fun d v h1 M1 H1 e1 r1 b1 k1 =>
        ⟨r, h1, M1, r1, re.ext C.gk rl e1, one k1 fun e u h2 M2 H2 e2 r2 b2 k2 => k2.here r2 (.cons (b1.ext C.gk r1 e2) b2)⟩⟩
  | .inr x :: xs, X, G, ck, k, Wx, es, C, h, n => by
    unfold okS at h
    split at h
    · simp only [Bool.and_eq_true] at h
      refine PA.imp (StX.pa_star (x.snd C h.1 n.1) (sndS xs C h.2 n.2)) fun σ H Qv ⟨r, h, M, rl, re, k⟩ => ⟨r, h, M, rl, re, one k fun d v h1 M1 H1 e1 r1 b1 k1 => ?_⟩
      unfold on1 at k1
      cases q1 : vw h1 d with
      | none => rw [q1] at k1; exact k1.elim
      | some d' =>
        rw [q1] at k1
        simp only [Option.bind_some] at k1
        cases q2 : items d' with
        | none => rw [q2] at k1; exact k1.elim
        | some l =>
          rw [q2] at k1
          simp only [ofO_some, bind_ok] at k1
          obtain ⟨p, vs, rfl, rv, sq⟩ := (vw_ok r1 b1 q1).seq C.hK q2
          refine ⟨p, vs, rfl, ?_, r, h1, M1, r1, re.ext C.gk rl e1, one k1 fun e u h2 M2 H2 e2 r2 b2 k2 => k2.here r2 ((rv.ext C.gk r1 e2).append b2)⟩
          rcases sq with ⟨q, _⟩ | ⟨q, _⟩
          · exact .inr q
          · exact .inl q
    · cases h
/-- (.., *x, ..) -/
def Xp.tupS (xs : List Xs) : Xp where
  sem r h := (semS xs r h).bind fun ds h1 => if ds.length ≤ line then .ok (.tup ds) h1 else .no
  ok ck a := match a with
    | .Tuple es _ _ => okS xs ck es
    | _ => false
  need := needS xs
  star _ a h := by cases a <;> first | rfl | (simp at h)
  snd {X G ck k Wx a} C h n := by
    split at h
    · refine PE.imp (pe_tup (sndS xs C h n)) fun σ H Qv ⟨r, h, M, rl, re, k⟩ => ⟨r, h, M, rl, re, one k fun d v h1 M1 H1 e1 r1 b1 k1 => ?_⟩
      split at k1
      · rename_i hl
        exact ⟨by rw [← b1.length, ← line_eq]; exact hl, fun p hp => KP.newTup C.gk k1 r1 b1 p hp⟩
      · exact k1.elim
    · cases h
def Xn.lstS (xs : List Xs) : Xn where
  sem r h := (semS xs r h).bind fun ds h1 => if ds.length ≤ line then .ok (.lst ds) h1 else .no
  ok ck a := match a with
    | .List es _ => okS xs ck es
    | _ => false
  need := needS xs
  star _ a h := by cases a <;> first | rfl | (simp at h)
  snd {X G ck k Wx a} C h n := by
    split at h
    · refine PE.imp (pe_lst (sndS xs C h n)) fun σ H Qv ⟨r, h, M, rl, re, k⟩ => ⟨r, h, M, rl, re, one k fun d v h1 M1 H1 e1 r1 b1 k1 => ?_⟩
      split at k1
      · rename_i hl
        exact ⟨by rw [← b1.length, ← line_eq]; exact hl, fun p hp => kn_list C.gk e1 r1 b1 k1 p hp⟩
      · exact k1.elim
    · cases h
end Pf

set_option Elab.async false
set_option linter.all false
/-! ## What the bundles compute, as equations -/
namespace Pf
open PySem L2
section
variable {r : Rho} {h : Hh}
@[simp] theorem m_v {i : Nat} : (Xp.v i).sem r h = match r[i]? with
    | some (.pl d) => .ok d h
    | _ => .no := rfl
@[simp] theorem mo_v {i : Nat} : (Xo.v i).sem r h = match r[i]? with
    | some (.pl d) => .ok d h
    | some (.ow d) => .ok d h
    | _ => .no := rfl
@[simp] theorem mo_o {x : Xp} : x.o.sem r h = x.sem r h := rfl
@[simp] theorem m_c {d : D} : (Xp.c d).sem r h = .ok d h := rfl
@[simp] theorem m_g {y : Str} {d : D} : (Xp.g y d).sem r h = .ok d h := rfl
@[simp] theorem m_neg {x : Xp} : (Xp.neg x).sem r h = (x.sem r h).bind fun d h1 => match d with
    | .int i => .ok (.int (-i)) h1
    | _ => .no := rfl
@[simp] theorem m_bin {o : Operator} {x y : Xo} : (Xp.bin o x y).sem r h = (x.sem r h).bind fun d h1 => (y.sem r h1).bind fun e h2 => ofO (on2 (binE o) h2 d e) h2 := rfl
@[simp] theorem m_mul {x y : Xo} : (Xp.mul x y).sem r h = (x.sem r h).bind fun d h1 => (y.sem r h1).bind fun e h2 => ofO (on2 mulE h2 d e) h2 := rfl
@[simp] theorem m_cmp {o : CmpOp} {x y : Xo} : (Xp.cmp o x y).sem r h = (x.sem r h).bind fun d h1 => (y.sem r h1).bind fun e h2 => ofB (on2 (cmpE o) h2 d e) h2 := rfl
@[simp] theorem mt_cmp {o : CmpOp} {x y : Xo} : (Xt.cmp o x y).sem r h = (x.sem r h).bind fun d h1 => (y.sem r h1).bind fun e h2 => ofO (on2 (cmpE o) h2 d e) h2 := rfl
@[simp] theorem mt_e {x : Xo} : (Xt.e x).sem r h = (x.sem r h).bind fun d h1 => ofO (on1 truE h1 d) h1 := rfl
@[simp] theorem mt_not {x : Xt} : (Xt.not x).sem r h = (x.sem r h).bind fun d h1 => .ok (!d) h1 := rfl
@[simp] theorem mt_and {x y : Xt} : (Xt.and x y).sem r h = (x.sem r h).bind fun d h1 => if d then y.sem r h1 else .ok false h1 := rfl
@[simp] theorem mt_or {x y : Xt} : (Xt.or x y).sem r h = (x.sem r h).bind fun d h1 => if d then .ok true h1 else y.sem r h1 := rfl
@[simp] theorem m_and {x y : Xp} : (Xp.and x y).sem r h = (x.sem r h).bind fun d h1 => match d with
    | .bl true => y.sem r h1
    | .bl false => .ok (.bl false) h1
    | _ => .no := rfl
@[simp] theorem m_or {x y : Xp} : (Xp.or x y).sem r h = (x.sem r h).bind fun d h1 => match d with
    | .bl false => y.sem r h1
    | .bl true => .ok (.bl true) h1
    | _ => .no := rfl
@[simp] theorem m_not {x : Xp} : (Xp.not x).sem r h = (x.sem r h).bind fun d h1 => match d with
    | .bl b => .ok (.bl (!b)) h1
    | _ => .no := rfl
@[simp] theorem m_ite {t : Xt} {x y : Xp} : (Xp.ite t x y).sem r h = (t.sem r h).bind fun d h1 => if d then x.sem r h1 else y.sem r h1 := rfl
@[simp] theorem m_chain {o p : CmpOp} {x y z : Xo} : (Xp.chain o p x y z).sem r h = chainS o p x y z r h := rfl
@[simp] theorem mt_chain {o p : CmpOp} {x y z : Xo} : (Xt.chain o p x y z).sem r h = (chainS o p x y z r h).bind fun d h1 => ofO (toB d) h1 := rfl
@[simp] theorem m_ix {x y : Xo} : (Xp.ix x y).sem r h = (x.sem r h).bind fun d h1 => (y.sem r h1).bind fun e h2 => ofO (on2 ixE h2 d e) h2 := rfl
@[simp] theorem m_sl {x : Xo} {lo hi : Option Xp} : (Xp.sl x lo hi).sem r h = (x.sem r h).bind fun d h1 => (semO lo r h1).bind fun l h2 => (semO hi r h2).bind fun u h3 => ofO (on1 (slE · l u) h3 d) h3 := rfl
@[simp] theorem m_tup {xs : List Xp} : (Xp.tup xs).sem r h = (semA xs r h).bind fun ds h1 => if ds.length ≤ line then .ok (.tup ds) h1 else .no := rfl
@[simp] theorem m_tupS {xs : List Xs} : (Xp.tupS xs).sem r h = (semS xs r h).bind fun ds h1 => if ds.length ≤ line then .ok (.tup ds) h1 else .no := rfl
@[simp] theorem m_fz {x : Xn} : (Xp.fz x).sem r h = x.sem r h := rfl
@[simp] theorem m_hp {x : Xn} : (Xp.hp x).sem r h = (x.sem r h).bind fun d h1 => .ok (.ref h1.length) (h1 ++ [d]) := rfl
@[simp] theorem mn_lst {xs : List Xp} : (Xn.lst xs).sem r h = (semA xs r h).bind fun ds h1 => if ds.length ≤ line then .ok (.lst ds) h1 else .no := rfl
@[simp] theorem mn_lstS {xs : List Xs} : (Xn.lstS xs).sem r h = (semS xs r h).bind fun ds h1 => if ds.length ≤ line then .ok (.lst ds) h1 else .no := rfl
@[simp] theorem mn_lc {e : Xp} {t : Tg} {it : Ib} {ifs : Option Xt} {own : List (Str × Nat)} : (Xn.lc e t it ifs own).sem r h = lcSem e t it ifs own r h := rfl
@[simp] theorem mn_bi {f : Bn} {xs : List Xo} : (Xn.bi f xs).sem r h = (semB xs r h).bind fun ds h1 => ofO (onL (bnE f) h1 ds) h1 := rfl
@[simp] theorem m_bi {f : Bi} {xs : List Xo} : (Xp.bi f xs).sem r h = (semB xs r h).bind fun ds h1 => ofO (onL (biE f) h1 ds) h1 := rfl
@[simp] theorem m_isi {c : Kd} {x : Xo} : (Xp.isi c x).sem r h = (x.sem r h).bind fun d h1 => ofB (on1 (isE c) h1 d) h1 := rfl
@[simp] theorem m_call {f : Str} {F : Fsem} {xs : List Xp} : (Xp.call f F xs).sem r h = (semA xs r h).bind fun ds h1 => F ds h1 := rfl
@[simp] theorem m_at {c f : Nat} {x : Xo} : (Xp.at c f x).sem r h = (x.sem r h).bind fun d h1 => ofO (on1 (fldE c f) h1 d) h1 := rfl
@[simp] theorem m_prop {c : Nat} {f : Str} {F : Fsem} {x : Xp} : (Xp.prop c f F x).sem r h = (x.sem r h).bind fun d h1 => match vw h1 d with
    | some d' => if isIns c d' then noX (F [d] h1) else .no
    | none => .no := rfl
@[simp] theorem m_mc {c : Nat} {m : Str} {F : Fsem} {o : Xp} {xs : List Xp} : (Xp.mc c m F o xs).sem r h = (o.sem r h).bind fun d h1 => match vw h1 d with
    | some d' => if isIns c d' then (semA xs r h1).bind fun ds h2 => F (d :: ds) h2 else .no
    | none => .no := rfl
@[simp] theorem m_mkF {c : Nat} {F : Fsem} {xs : List Xp} : (Xp.mkF c F xs).sem r h = (semA xs r h).bind fun ds h1 => mkF c F ds h1 := rfl
@[simp] theorem m_mkH {c : Nat} {F : Fsem} {xs : List Xp} : (Xp.mkH c F xs).sem r h = (semA xs r h).bind fun ds h1 => mkH c F ds h1 := rfl
@[simp] theorem mi_seq {x : Xp} : (Ib.seq x).sem r h = (x.sem r h).bind fun d h1 => ofO (items d) h1 := rfl
@[simp] theorem mi_r1 {x : Xp} : (Ib.r1 x).sem r h = (x.sem r h).bind fun d h1 => match d with
    | .int j => if rngOk j then .ok ((List.range j.toNat).map fun (k : Nat) => D.int (k : Int)) h1 else .no
    | _ => .no := rfl
@[simp] theorem mi_r2 {x y : Xp} : (Ib.r2 x y).sem r h = (x.sem r h).bind fun d h1 => (y.sem r h1).bind fun e h2 => match d, e with
    | .int i, .int j => if rngOk i && rngOk j then .ok ((List.range (j - i).toNat).map fun (k : Nat) => D.int (i + (k : Int))) h2 else .no
    | _, _ => .no := rfl
@[simp] theorem ms_asg {t : Tg} {x : Xp} : (Sm.asg t x).sem r h = (x.sem r h).st r fun d h1 => ofP (t.put d r) h1 := rfl
@[simp] theorem ms_asgO {i : Nat} {x : Xn} : (Sm.asgO i x).sem r h = (x.sem r h).st r fun d h1 => .nx (r.set i (.ow d)) h1 := rfl
@[simp] theorem ms_asgLc {i : Nat} {e : Xp} {t : Tg} {it : Ib} {ifs : Option Xt} {own : List (Str × Nat)} : (Sm.asgLc i e t it ifs own).sem r h = (lcSem e t it ifs own r h).st r fun d h1 => .nx (r.set i (.pl d)) h1 := rfl
@[simp] theorem ms_asgOLc {i : Nat} {e : Xp} {t : Tg} {it : Ib} {ifs : Option Xt} {own : List (Str × Nat)} : (Sm.asgOLc i e t it ifs own).sem r h = (lcSem e t it ifs own r h).st r fun d h1 => .nx (r.set i (.ow d)) h1 := rfl
@[simp] theorem ms_ex {x : Xp} : (Sm.ex x).sem r h = (x.sem r h).st r fun _ h1 => .nx r h1 := rfl
@[simp] theorem ms_ret {x : Xp} : (Sm.ret x).sem r h = (x.sem r h).st r fun d h1 => .rt d h1 := rfl
@[simp] theorem ms_retN : Sm.retN.sem r h = .rt .non h := rfl
@[simp] theorem ms_pass : Sm.pass.sem r h = .nx r h := rfl
@[simp] theorem ms_doc : Sm.doc.sem r h = .nx r h := rfl
@[simp] theorem ms_brk : Sm.brk.sem r h = .bk r h := rfl
@[simp] theorem ms_cont : Sm.cont.sem r h = .ct r h := rfl
@[simp] theorem ms_nev : Sm.nev.sem r h = .no := rfl
@[simp] theorem ms_ife {t : Xt} {a b : List Si} : (Sm.ife t a b).sem r h = (t.sem r h).st r fun c h1 => if c then semSs a r h1 else semSs b r h1 := rfl
@[simp] theorem ms_for {t : Tg} {it : Ib} {b : List Si} : (Sm.for_ t it b).sem r h = (it.sem r h).st r fun xs h1 => forGo t (semSs b) xs r h1 := rfl
@[simp] theorem ms_whl {n : Nat} {t : Xt} {b : List Si} : (Sm.whl n t b).sem r h = whGo t.sem (semSs b) n r h := rfl
@[simp] theorem ms_par {is : List Nat} {xs : List Xa} : (Sm.par is xs).sem r h = (semX xs r h).st r fun ds h1 => ofP (setsX is ds r) h1 := rfl
@[simp] theorem ms_app {j : Nat} {x : Xp} : (Sm.app j x).sem r h = match r[j]? with
    | some (.ow (.lst l)) => (x.sem r h).st r fun d h1 => if l.length < line then .nx (r.set j (.ow (.lst (l ++ [d])))) h1 else .no
    | _ => .no := rfl
@[simp] theorem ms_setO {j : Nat} {i e : Xp} : (Sm.setO j i e).sem r h = (e.sem r h).st r fun d h1 => match r[j]? with
    | some (.ow (.lst l)) => (i.sem r h1).st r fun k h2 => (match k with
      | .int k => (match ixNat l.length k with
        | some m => .nx (r.set j (.ow (.lst (l.set m d)))) h2
        | none => .no)
      | _ => .no)
    | _ => .no := rfl
@[simp] theorem ms_setH {o i e : Xp} : (Sm.setH o i e).sem r h = (e.sem r h).st r fun d h1 => (o.sem r h1).st r fun x h2 => (i.sem r h2).st r fun k h3 => match x, k with
    | .ref p, .int k => (match h3[p]? with
      | some (.lst l) => (match ixNat l.length k with
        | some m => .nx r (h3.set p (.lst (l.set m d)))
        | none => .no)
      | _ => .no)
    | _, _ => .no := rfl
@[simp] theorem ms_setA {c f : Nat} {o e : Xp} : (Sm.setA c f o e).sem r h = (e.sem r h).st r fun d h1 => (o.sem r h1).st r fun x h2 => match x with
    | .ref i => (match h2[i]? with
      | some (.ins c' fs) => if c' = c ∧ fs.length < 900 then .nx r (h2.set i (.ins c (putD f d fs))) else .no
      | _ => .no)
    | _ => .no := rfl
end
/-! pure operations at known data -/
@[simp] theorem vw_non {h : Hh} : vw h .non = some .non := rfl
@[simp] theorem vw_bl {h : Hh} {b : Bool} : vw h (.bl b) = some (.bl b) := rfl
@[simp] theorem vw_int {h : Hh} {i : Int} : vw h (.int i) = some (.int i) := rfl
@[simp] theorem vw_str {h : Hh} {x : List Nat} : vw h (.str x) = some (.str x) := rfl
@[simp] theorem vw_tup {h : Hh} {l : List D} : vw h (.tup l) = some (.tup l) := rfl
@[simp] theorem vw_lst {h : Hh} {l : List D} : vw h (.lst l) = some (.lst l) := rfl
@[simp] theorem vw_lsc {h : Hh} {l : List D} : vw h (.lsc l) = some (.lsc l) := rfl
@[simp] theorem vw_ins {h : Hh} {c : Nat} {l : List (Nat × D)} : vw h (.ins c l) = some (.ins c l) := rfl
@[simp] theorem vw_ref {h : Hh} {i : Nat} : vw h (.ref i) = h[i]? := rfl
theorem eqE_int (i j : Int) : eqE (.int i) (.int j) = some (decide (i = j)) := by
  simp only [eqE, dep, pd, PyData.eqv, Bool.and_self, if_true]
  rfl
theorem tS_beq (x y : List Nat) : (tS x == tS y) = decide (x = y) := by
  by_cases h : x = y
  · subst h; simp
  · have : tS x ≠ tS y := fun z => h (tS_inj z)
    simp [h, this]
def chk (x : List Nat) : Bool := x.all fun c => decide (c < 1114112)
theorem eqE_str (x y : List Nat) (hx : chk x = true) (hy : chk y = true) : eqE (.str x) (.str y) = some (decide (x = y)) := by
  unfold chk at hx hy
  simp only [eqE, dep, hx, hy, Bool.and_self, if_true, pd, PyData.eqv, tS_beq]
theorem cmp_eq_int {i j : Int} : cmpE .Eq (.int i) (.int j) = some (decide (i = j)) := eqE_int i j
theorem cmp_ne_int {i j : Int} : cmpE .NotEq (.int i) (.int j) = some (!decide (i = j)) := by unfold cmpE; rw [eqE_int]; rfl
@[simp] theorem cmp_lt_int {i j : Int} : cmpE .Lt (.int i) (.int j) = some (decide (i < j)) := rfl
@[simp] theorem cmp_le_int {i j : Int} : cmpE .LtE (.int i) (.int j) = some (decide (i ≤ j)) := rfl
@[simp] theorem cmp_gt_int {i j : Int} : cmpE .Gt (.int i) (.int j) = some (decide (j < i)) := rfl
@[simp] theorem cmp_ge_int {i j : Int} : cmpE .GtE (.int i) (.int j) = some (decide (j ≤ i)) := rfl
@[simp] theorem cmp_is {a : D} : cmpE .Is a .non = some (isNonD a) := rfl
@[simp] theorem cmp_isnot {a : D} : cmpE .IsNot a .non = some (!isNonD a) := rfl
theorem cmp_eq_str {x y : List Nat} (hx : chk x = true) (hy : chk y = true) : cmpE .Eq (.str x) (.str y) = some (decide (x = y)) := eqE_str x y hx hy
theorem cmp_ne_str {x y : List Nat} (hx : chk x = true) (hy : chk y = true) : cmpE .NotEq (.str x) (.str y) = some (!decide (x = y)) := by unfold cmpE; rw [eqE_str x y hx hy]; rfl

/-! how steps go on behind two ways -/
@[simp] theorem ite_bind {α β : Type} {c : Prop} [Decidable c] {a b : Res α} {f : α → Hh → Res β} : (if c then a else b).bind f = if c then a.bind f else b.bind f := by split <;> rfl
@[simp] theorem ite_st {α : Type} {c : Prop} [Decidable c] {a b : Res α} {r : Rho} {f : α → Hh → Out} : (if c then a else b).st r f = if c then a.st r f else b.st r f := by split <;> rfl
@[simp] theorem ite_then {c : Prop} [Decidable c] {a b : Out} {f : Rho → Hh → Out} : (if c then a else b).then f = if c then a.then f else b.then f := by split <;> rfl
@[simp] theorem ite_outR {c : Prop} [Decidable c] {a b : Out} : outR (if c then a else b) = if c then outR a else outR b := by split <;> rfl
@[simp] theorem ite_noX {α : Type} {c : Prop} [Decidable c] {a b : Res α} : noX (if c then a else b) = if c then noX a else noX b := by split <;> rfl
@[simp] theorem outR_nx {r : Rho} {h : Hh} : outR (.nx r h) = .ok .non h := rfl
@[simp] theorem outR_rt {d : D} {h : Hh} : outR (.rt d h) = .ok d h := rfl
@[simp] theorem outR_exc {c : Nat} {fs : List (Nat × D)} {r : Rho} {h : Hh} : outR (.exc c fs r h) = .exc c fs h := rfl
@[simp] theorem outR_no : outR .no = .no := rfl
/-- the end of a def without the heap -/
def pureR (h : Hh) : Res D → Res D
  | .ok d _ => if nr d then .ok d h else .no
  | .exc c fs _ => if nrf fs then .exc c fs h else .no
  | .no => .no
@[simp] theorem pureR_ok {h h' : Hh} {d : D} : pureR h (.ok d h') = if nr d then .ok d h else .no := rfl
@[simp] theorem pureR_exc {h h' : Hh} {c : Nat} {fs : List (Nat × D)} : pureR h (.exc c fs h') = if nrf fs then .exc c fs h else .no := rfl
@[simp] theorem pureR_no {h : Hh} : pureR h .no = .no := rfl
@[simp] theorem ite_pureR {c : Prop} [Decidable c] {a b : Res D} {h : Hh} : pureR h (if c then a else b) = if c then pureR h a else pureR h b := by split <;> rfl
theorem pure_eq {F : Fsem} {ds : List D} {h : Hh} (hn : nrs ds = true) : pureOf F ds h = pureR h (F ds []) := by
  unfold pureOf
  rw [if_pos hn]
  cases F ds [] <;> rfl
theorem fnF_eq {n m : Nat} {b : List Si} {ds : List D} {h : Hh} (hl : ds.length = m) : fnF n m b ds h = outR (semSs b (startR n ds) h) := by
  unfold fnF
  rw [if_pos hl]
/-- a def without the heap, by what its body does -/
theorem pure_of {n m : Nat} {b : List Si} {ds : List D} {h h' : Hh} {d : D} (hn : nrs ds = true) (hl : ds.length = m) (hd : nr d = true) (e : outR (semSs b (startR n ds) []) = .ok d h') : pureOf (fnF n m b) ds h = .ok d h := by
  rw [pure_eq hn, fnF_eq hl, e]
  simp [hd]
/-- a def that gets one thing of the heap, by what its body does -/
theorem row_of {n m : Nat} {b : List Si} {ds : List D} {h h' : Hh} {i : Nat} {o o' d : D} (hi : h[i]? = some o) (ho : nr o = true) (hn : nrs ds = true) (hl : ds.length + 1 = m) (hd : nr d = true) (ho' : nr o' = true) (e : outR (semSs b (startR n (.ref 0 :: ds)) [o]) = .ok d (o' :: h')) :
    rowOf (fnF n m b) (.ref i :: ds) h = .ok d (h.set i o') := by
  unfold rowOf
  simp only [hi, ho, hn, Bool.and_self, if_true]
  rw [fnF_eq (by simpa using hl), e]
  simp [hd, ho']
@[simp] theorem ss_nil {r : Rho} {h : Hh} : semSs [] r h = .nx r h := rfl
@[simp] theorem ss_s {x : Sm} {l : List Si} {r : Rho} {h : Hh} : semSs (.s x :: l) r h = (x.sem r h).then (semSs l) := rfl
@[simp] theorem ss_frz {i : Nat} {l : List Si} {r : Rho} {h : Hh} : semSs (.frz i :: l) r h = semSs l (frzR i r) h := rfl
@[simp] theorem ss_kill {ks : List Nat} {l : List Si} {r : Rho} {h : Hh} : semSs (.kill ks :: l) r h = semSs l (killR ks r) h := rfl
theorem if_or {α : Type} {a b : Prop} [Decidable a] [Decidable b] {x y : α} : (if a ∨ b then x else y) = if a then x else if b then x else y := by
  by_cases h1 : a <;> by_cases h2 : b <;> simp [h1, h2]
theorem if_and {α : Type} {a b : Prop} [Decidable a] [Decidable b] {x y : α} : (if a ∧ b then x else y) = if a then (if b then x else y) else y := by
  by_cases h1 : a <;> by_cases h2 : b <;> simp [h1, h2]
theorem ok_if {α : Type} {a : Prop} [Decidable a] {x y : α} {h : Hh} : (Res.ok (if a then x else y) h) = if a then .ok x h else .ok y h := by split <;> rfl
theorem map_if {α β : Type} {a : Prop} [Decidable a] {x y : Option α} {f : α → β} : Option.map f (if a then x else y) = if a then x.map f else y.map f := by split <;> rfl
/-- data of an option -/
def dO : Option D → D
  | some d => d
  | none => .non
@[simp] theorem dO_some {d : D} : dO (some d) = d := rfl
@[simp] theorem dO_none : dO none = .non := rfl
theorem dO_if {a : Prop} [Decidable a] {x y : Option D} : dO (if a then x else y) = if a then dO x else dO y := by split <;> rfl
end Pf

set_option Elab.async false
set_option linter.all false
set_option maxRecDepth 100000
set_option maxHeartbeats 2000000
/-! ## enumerate -/
namespace Pf
open PySem L2
theorem enum_new1 {v : Value} {o : Obj} {H : Heap → Prop} (B : Begins v o H) :
    Meets (Builtin.«enumerate.__new__» ⟨[.type "enumerate", v], []⟩) (fun _ R s => H s.heap ∧
      R (.ok (.ret (.ref (s.heap.push o).objs.size))) { s with heap := (s.heap.push o).push { cls := .type "enumerate", data := .fields #[.none, .bool false, .ref s.heap.objs.size, rawInt 0, .none, .none] } }) :=
  .of_wp fun prog w A R s h => by
    obtain ⟨hp, g, d, tk, os⟩ := s
    obtain ⟨h1, h⟩ := h
    have hsub := sub_enumerate
    have it : ∀ {A' : Around} {E : Value → Shared → Prop} {Q : Value → Shared → Prop}, Q (.ref hp.objs.size) ⟨hp.push o, g, d, tk, os⟩ → wpAny (model prog w) A' (pyIter v) Q E ⟨hp, g, d, tk, os⟩ := fun q => B.iter prog w _ _ ⟨hp, g, d, tk, os⟩ _ h1 q
    wp_walk using it
    refine wpAny_stack_any fun st => wpAny_pure ?_
    split
    · rename_i c _ _ _ _ _
      cases (c == Value.type "enumerate")
      · wp_walk using it
        exact ⟨_, rfl, h⟩
      · wp_walk using it
        exact ⟨_, rfl, h⟩
    · wp_walk using it
      exact ⟨_, rfl, h⟩
theorem call_enum {prog : Program} {w : World} {A : Around} {E : Value → Shared → Prop} {s : Shared} {v : Value} {o : Obj} {H : Heap → Prop} {Q : Value → Shared → Prop} (B : Begins v o H) (h1 : H s.heap)
    (h : ∀ h', IsEnum h' (s.heap.objs.size + 1) s.heap.objs.size 0 .none → h'.get? s.heap.objs.size = some o → h'.objs.size = s.heap.objs.size + 2 → (∀ b o, s.heap.get? b = some o → h'.get? b = some o) → Q (.ref (s.heap.objs.size + 1)) { s with heap := h' }) :
    wpAny (model prog w) A (call (.type "enumerate") [v]) Q E s := by
  refine callType_new F.called_enumerate (by decide) (F.typeCall_enumerate_1 _) (F.newCall_enumerate_1 _) (fun obj => F.args_object_init_2 obj _) F.entry_enumerate_new (enum_new1 B) ⟨h1, ?_⟩
  have hz : (s.heap.push o).objs.size = s.heap.objs.size + 1 := Heap.size_push ..
  show _ ∧ _
  rw [hz]
  have he : IsEnum ((s.heap.push o).push { cls := .type "enumerate", data := .fields #[.none, .bool false, .ref s.heap.objs.size, rawInt 0, .none, .none] }) (s.heap.objs.size + 1) s.heap.objs.size 0 .none := by
    have q := Heap.get?_push_size (s.heap.push o) (o := { cls := .type "enumerate", data := .fields #[.none, .bool false, .ref s.heap.objs.size, rawInt 0, .none, .none] }) rfl
    rw [hz] at q
    exact q
  refine ⟨⟨_, he, rfl⟩, h _ he (Heap.get?_push_of_some _ (Heap.get?_push_size _ B.free)) (by rw [Heap.size_push, hz]) fun b o x => ?_⟩
  exact Heap.get?_push_of_some _ (Heap.get?_push_of_some _ x)
/-- enumerate over a tuple, turn by turn -/
def Ien (K : PySem.W.Frag) (a : Addr) : It where
  go := fun i H => ∃ xs x, SqT K H a xs ∧ xs[i]? = some x
  yld := fun i H y H' => ∃ T x, y = .ref T ∧ H T = none ∧ H' = upd H T (.tup [.int (i : Nat), x]) ∧ ∀ xs, SqT K H a xs → xs[i]? = some x
  stop := fun i H => ∃ xs, SqT K H a xs ∧ xs.length = i
theorem apart_obj {h : Heap} {a b : Addr} {o u : Obj} (e1 : h.get? a = some o) (e2 : h.get? b = some u) (n : o.cls ≠ u.cls) : a ≠ b := fun z => by
  subst z
  rw [e1] at e2
  cases e2
  exact n rfl
theorem tuple_inj {X : Cx} {pins : List (Addr × Obj)} {σ : St} {H : Hp} {s : Shared} {a : Addr} {xs ys : List V} (I : Inv X pins σ H s) (h1 : SqT X.K H a xs) (h2 : SqT X.K H a ys) : xs = ys := I.tuple_inj h1 h2
theorem turn_enT {P : Program} {w : World} {K : PySem.W.Frag} {elts : List Expr} {kk : Nat} {tpos : Pos} (a e it : Addr) :
    Turn P w K (.Tuple elts kk tpos) (Ien K a) [e, it] e (fun i h => (∃ old, IsEnum h e it ((i : Nat) : Int) old) ∧ h.IsTupleIter it a i ∧ e ≠ it) where
  mem := List.mem_cons_self
  obj := fun i h ⟨⟨old, he⟩, ⟨o, ho, hc, hd⟩, _⟩ b hb => by
    rcases List.mem_cons.mp hb with rfl | hb
    · exact ⟨_, he, fun v q => nomatch q⟩
    · rw [List.mem_singleton.mp hb]
      exact ⟨o, ho, fun v q => by rw [hd] at q; cases q⟩
  keep := fun i h h' ⟨⟨old, he⟩, hi, hne⟩ k => ⟨⟨old, k e List.mem_cons_self _ he⟩, hi.at fun o q => k it (List.mem_cons_of_mem _ List.mem_cons_self) o q, hne⟩
  item := by
    intro X hP hw hK hc i pins s σ H E I hf ⟨⟨old, he⟩, hit, hne⟩ ⟨xs, x, hq, hx⟩
    subst hP hw hK
    obtain ⟨its, rv, tp, hz⟩ := I.tuple hq
    obtain ⟨u, hu, ru⟩ := rv.get hx
    have ilt : i < its.toArray.size := by simpa using (List.getElem?_eq_some_iff.mp hu).1
    have hel : e < s.heap.objs.size := Heap.lt_size he
    obtain ⟨oi, hoi, hci, hdi⟩ := hit
    have hil : it < s.heap.objs.size := Heap.lt_size hoi
    obtain ⟨ot, hot, hct, hdt⟩ := tp
    have ai : a ≠ it := apart_obj hot hoi (by rw [hct, hci]; decide)
    have ae : a ≠ e := apart_obj hot he (by rw [hct]; exact fun z => by simp at z)
    have D := Draws.tuple (prog := X.prog) (w := X.w) (A := X.A.in1) (I.ok.hd hc) it a ai its.toArray
    refine wpAny_pyNext_enum_itemD D he ⟨⟨oi, hoi, hci, hdi⟩, ⟨ot, hot, hct, hdt⟩⟩ ilt hne (by simp [hne, Ne.symm ae]) fun z h' tk hz1 ho st' hT hsz hk => ?_
    have ez : z = u := by
      rw [List.getElem?_toArray, hu] at hz1
      exact (Option.some.inj hz1).symm
    subst ez
    refine ⟨_, rfl, wpAny_letOwnedTupleGo_enum (s := { s with heap := h', toks := tk + 1 }) ho fun h2 he2 sb => ?_⟩
    have hT2 : h2.get? s.heap.objs.size = some { cls := .type "tuple", data := .seq #[.int i tk, z] } := (sb.2 _ (Nat.ne_of_gt hel)).trans hT
    have kp : ∀ b ob, b ∉ [e, it] → s.heap.get? b = some ob → h2.get? b = some ob := fun b ob hb q => by
      have b1 : b ≠ e := fun z => hb (by simp [z])
      have b2 : b ≠ it := fun z => hb (by simp [z])
      exact (sb.2 b b1).trans (hk b ob b1 b2 q)
    have nw : ObjOk X.prog X.w (upd H s.heap.objs.size (.tup [.int (i : Nat), x])) h2 s.heap.objs.size (.tup [.int (i : Nat), x]) := ⟨by show 2 ≤ sizeLine; decide, [.int i tk, z], .cons ⟨_, rfl⟩ (.cons ru .nil), ⟨_, hT2, rfl, _, rfl⟩⟩
    have J : Inv X pins σ (upd H s.heap.objs.size (.tup [.int (i : Nat), x])) { s with heap := h2, toks := tk + 1 } := I.turnedNew (ch := [e, it]) kp hf (Nat.le_refl _) nw
    refine ⟨.ref s.heap.objs.size, _, J, rfl, ⟨_, x, rfl, I.hok.fresh (Nat.le_refl _), rfl, fun ys hy => by rw [tuple_inj I hy hq]; exact hx⟩, ⟨⟨z, ?_⟩, st'.1.at fun o q => (sb.2 it (Ne.symm hne)).trans q, hne⟩, fun b hb => ?_⟩
    · rw [show ((i + 1 : Nat) : Int) = (i : Int) + 1 by omega]
      exact he2
    · have hb' : b < s.heap.objs.size := by
        rcases List.mem_cons.mp hb with z | z
        · rw [z]; exact hel
        · rw [List.mem_singleton.mp z]; exact hil
      rw [upd_ne (Nat.ne_of_lt hb')]
      exact (hf b hb).1
  done := by
    intro X hP hw hK hc i pins s σ H E I hf ⟨⟨old, he⟩, hit, hne⟩ ⟨xs, hq, hx⟩
    subst hP hw hK
    obtain ⟨its, rv, tp, hz⟩ := I.tuple hq
    have en : its.toArray.size = i := by rw [List.size_toArray, ← rv.length]; exact hx
    obtain ⟨oi, hoi, hci, hdi⟩ := hit
    obtain ⟨ot, hot, hct, hdt⟩ := tp
    have ai : a ≠ it := apart_obj hot hoi (by rw [hct, hci]; decide)
    have D := Draws.tuple (prog := X.prog) (w := X.w) (A := X.A.in1) (I.ok.hd hc) it a ai its.toArray
    obtain ⟨f0, f1, f2, f3, f4, f5⟩ := hf it (List.mem_cons_of_mem _ List.mem_cons_self)
    refine wpAny_pyNext_enum_endD D he ⟨by rw [en]; exact ⟨oi, hoi, hci, hdi⟩, ⟨ot, hot, hct, hdt⟩⟩ fun h' eb => ⟨rfl, ?_⟩
    exact I.turned (t' := s.toks) (fun b o hb q => eb b o hb q) f0 f1 f3 f4 f5
  self := fun A i s Q E ⟨⟨_, he⟩, _⟩ h => wpAny_pyIter_enum he h
def isTupE : Expr → Bool
  | .Tuple _ _ _ => true
  | _ => false
def enumD : Nat → List D → List D
  | _, [] => []
  | n, d :: l => .tup [.int (n : Nat), d] :: enumD (n + 1) l
theorem enumD_len : ∀ (n : Nat) (l : List D), (enumD n l).length = l.length
  | _, [] => rfl
  | n, d :: l => by simp [enumD, enumD_len (n + 1) l]
theorem enumD_get : ∀ (n : Nat) (l : List D) (i : Nat) (d : D), l[i]? = some d → (enumD n l)[i]? = some (.tup [.int ((n + i : Nat)), d])
  | _, [], _, _, h => by simp at h
  | n, e :: l, 0, d, h => by simp at h; subst h; rfl
  | n, e :: l, i + 1, d, h => by
    have := enumD_get (n + 1) l i d (by simpa using h)
    simp only [enumD, List.getElem?_cons_succ, this]
    rw [show n + 1 + i = n + (i + 1) by omega]
section
variable {X : Cx} {G : Gx} {H : Hp} {M : Mp}
theorem new_tup {h2 : Hh} {M2 : Mp} {H2 : Hp} (gk : Gk G) (r2 : RL G h2 M2 H2) {T : Addr} {ds : List D} {vs : List V} (hT : H2 T = none) (rv : RVs G M2 H2 ds vs) : ∃ M3, Ext M2 H2 M3 (upd H2 T (.tup vs)) ∧ RL G h2 M3 (upd H2 T (.tup vs)) ∧ RV G M3 (upd H2 T (.tup vs)) (.tup ds) (.ref T) :=
  ⟨_, Ext.newF' hT, r2.newF gk hT (fun _ z => nomatch z), .tup (.inl ⟨.inr rfl, upd_same⟩) (rv.keep gk (Keep.newF hT))⟩
theorem it_enT (gk : Gk G) (hK : G.K = X.K) {p : Addr} {l : List D} {vs : List V} (x : TupAt G M.F H p vs) (rv : RVs G M H l vs) : ItOk G M H (enumD 0 l) (Ien X.K p) := by
  intro h2 M2 H2 e r2
  have x2 := (x.keep e).sq hK
  have rv2 := rv.keep gk e
  refine ⟨fun i hi => ?_, fun i hi => ⟨vs, x2, by rw [← rv.length]; rw [enumD_len] at hi; exact hi⟩⟩
  rw [enumD_len] at hi
  obtain ⟨v, e1, r1⟩ := rv2.get (List.getElem?_eq_getElem hi)
  refine ⟨⟨vs, v, x2, e1⟩, fun y H3 hy => ?_⟩
  obtain ⟨T, z, rfl, hT, rfl, hz⟩ := hy
  have ez : z = v := by have := hz vs x2; rw [e1] at this; exact (Option.some.inj this).symm
  subst ez
  obtain ⟨M3, e3, r3, rv3⟩ := new_tup gk r2 hT (.cons (.int (i : Nat)) (.cons r1 .nil))
  exact ⟨_, M3, enumD_get 0 l i _ (List.getElem?_eq_getElem hi), e3, r3, by simpa using rv3⟩
theorem it_enL (gk : Gk G) {p : Addr} {l : List D} (x : ∀ M2 H2, Keep M H M2 H2 → ∃ vs, SqL X.K H2 p vs ∧ RVs G M2 H2 l vs) : ItOk G M H (enumD 0 l) (Ite X.K p) := by
  intro h2 M2 H2 e r2
  obtain ⟨vs, x2, rv2⟩ := x M2 H2 e
  refine ⟨fun i hi => ?_, fun i hi => ⟨vs, x2, by rw [← rv2.length]; rw [enumD_len] at hi; exact Nat.le_of_eq hi⟩⟩
  rw [enumD_len] at hi
  obtain ⟨v, e1, r1⟩ := rv2.get (List.getElem?_eq_getElem hi)
  refine ⟨⟨vs, v, x2, e1⟩, fun y H3 hy => ?_⟩
  obtain ⟨T, z, rfl, hT, rfl, hz⟩ := hy
  have ez : z = v := by have := hz vs x2; rw [e1] at this; exact (Option.some.inj this).symm
  subst ez
  obtain ⟨M3, e3, r3, rv3⟩ := new_tup gk r2 hT (.cons (.int (i : Nat)) (.cons r1 .nil))
  exact ⟨_, M3, enumD_get 0 l i _ (List.getElem?_eq_getElem hi), e3, r3, by simpa using rv3⟩
end
theorem bt_enumerate : bootBuiltins "enumerate" = some (.type "enumerate") := by decide +kernel
/-- enumerate(x), x a tuple or a list that is written no more -/
def Ib.en (x : Xp) : Ib where
  sem r h := (x.sem r h).bind fun d h1 => ofO ((items d).map (enumD 0)) h1
  ok ck a := match a with
    | .Call (.Name f _) [y] [] _ => f == ("enumerate" : Str) && globB ck f && x.ok ck y
    | _ => false
  need t := BtL t "enumerate" ∧ x.need t
  tgt := isTupE
  set _ a h := by cases a <;> first | rfl | (simp at h)
  snd {X G ck k Wx tg a} C ht h n := by
    cases tg <;> simp only [isTupE, Bool.false_eq_true] at ht
    split at h
    · simp only [Bool.and_eq_true, beq_iff_eq] at h
      obtain ⟨⟨rfl, hg⟩, h2⟩ := h
      obtain ⟨g1, g2, g3⟩ := gl_of C hg
      have hs := x.star _ _ h2
      have hm : X.mg "enumerate" = none := by rw [← C.hmg]; exact n.1
      have hA : PA X [_] _ := pa_cons (x.snd C h2 n.2) pa_nil (star_cons hs _)
      refine ⟨fun pins s σ H R I ⟨r, hh, M, rl, re, k⟩ => ?_⟩
      refine PyProof.Rows.Call_ (ld_blt I g1 hm bt_enumerate (PyProof.Rows.callWith_type1 (thn (hA.run _ pins s σ H (fun vs H1 => ∃ v d h1 M1, vs = [v] ∧ Ext M H M1 H1 ∧ RL G h1 M1 H1 ∧ RV G M1 H1 d v ∧ KI G Wx σ M1 H1 R (ofO ((items d).map (enumD 0)) h1)) I ⟨r, hh, M, rl, re, oneI k fun d v h1 M1 H1 e1 r1 b1 k1 => ⟨v, d, h1, M1, rfl, e1, r1, b1, k1⟩⟩) fun us s1 ⟨vs, H1, I1, r1, v, d, h1, M1, ev, e1, rl1, rv, k1⟩ => ?_) (star_cons hs _) rfl))
      subst ev
      have fin : ∀ {J : It} {tn : Nat → Heap → Prop} {h' : Heap} {tg : Expr}, (∀ b o, s1.heap.get? b = some o → h'.get? b = some o) → Turn X.prog X.w X.K tg J [s1.heap.objs.size + 1, s1.heap.objs.size] (s1.heap.objs.size + 1) tn → tn 0 h' → R J H1 → PIE X pins σ tg R (.ref (s1.heap.objs.size + 1)) { s1 with heap := h' } := by
        intro J tn h' tg kp tu st q
        refine ⟨_, _, tn, J, H1, rfl, I1.kept (t' := s1.toks) kp, tu, st, fun b hb => ?_, q⟩
        have hle : s1.heap.objs.size ≤ b := by
          rcases List.mem_cons.mp hb with z | z
          · rw [z]; exact Nat.le_succ _
          · rw [List.mem_singleton.mp z]; exact Nat.le_refl _
        exact I1.fpOk hle (I1.hok.fresh hle)
      cases r1 with
      | cons rr rest =>
        cases rest
        cases rv <;> simp only [items, Option.map_some, Option.map_none, ofO_some, ofO_none] at k1 <;> first | exact k1.elim | cases rr
        · rename_i a1 r2 _
          obtain ⟨its, rv2, tp, hz⟩ := I1.tuple (a1.sq C.hK)
          exact call_enum (begins_tuple _ its.toArray) tp fun h' he hi hsz kp => wpAny_pyIter_enum he (fin kp (turn_enT _ _ _) ⟨⟨.none, he⟩, ⟨_, hi, rfl, rfl⟩, Nat.succ_ne_self _⟩ (k1 _ M1 H1 Ext.refl rl1 (it_enT C.gk C.hK a1 r2)))
        · rename_i a1 r2 _
          obtain ⟨its, rv2, p', hz⟩ := I1.list (a1.sq C.hK)
          exact call_enumerate_list p'.isList fun h' he hit hsz kp => wpAny_pyIter_enum he (fin kp (turn_enum _ _ _) ⟨⟨.none, he⟩, hit, Nat.succ_ne_self _⟩ (k1 _ M1 H1 Ext.refl rl1 (it_enL C.gk fun M2 H2 e => ⟨_, (a1.keep e).sq C.hK, r2.keep C.gk e⟩)))
        · rename_i hf ro _
          have ro' := ro
          cases ro with
          | lst h1 rr =>
            obtain ⟨its, rv2, p', hz⟩ := I1.list (SqL.of h1)
            refine call_enumerate_list p'.isList fun h' he hit hsz kp => wpAny_pyIter_enum he (fin kp (turn_enum _ _ _) ⟨⟨.none, he⟩, hit, Nat.succ_ne_self _⟩ (k1 _ M1 H1 Ext.refl rl1 (it_enL C.gk fun M2 H2 e => ?_)))
            cases ro'.keep C.gk e (e.k _ hf).2 with
            | lst h r => exact ⟨_, SqL.of h, r⟩
    · cases h
end Pf

set_option Elab.async false
set_option linter.all false
set_option maxRecDepth 100000
set_option maxHeartbeats 2000000
/-! ## zip -/
namespace Pf
open PySem L2
def Iz3 (K : PySem.W.Frag) (a b c : Addr) : It where
  go := fun i H => ∃ xs ys zs x y z, SqT K H a xs ∧ SqT K H b ys ∧ SqT K H c zs ∧ xs[i]? = some x ∧ ys[i]? = some y ∧ zs[i]? = some z
  yld := fun i H v H' => ∃ T x y z, v = .ref T ∧ H T = none ∧ H' = upd H T (.tup [x, y, z]) ∧ (∀ xs, SqT K H a xs → xs[i]? = some x) ∧ (∀ ys, SqT K H b ys → ys[i]? = some y) ∧ ∀ zs, SqT K H c zs → zs[i]? = some z
  stop := fun i H => ∃ xs ys zs, SqT K H a xs ∧ SqT K H b ys ∧ SqT K H c zs ∧ (i ≤ xs.length ∧ i ≤ ys.length ∧ i ≤ zs.length) ∧ (i = xs.length ∨ i = ys.length ∨ i = zs.length)
theorem turn_z3 {P : Program} {w : World} {K : PySem.W.Frag} {elts : List Expr} {kk : Nat} {tpos : Pos} {a b c z TI TO i1 i2 i3 : Addr} (S : ZipSep3 z TI TO i1 i2 i3 [i1, a] [i2, b] [i3, c]) :
    Turn P w K (.Tuple elts kk tpos) (Iz3 K a b c) [z, TI, TO, i1, i2, i3] z (fun i h => IsZip h z TI TO .none ∧ IsTupOf3 h TI (.ref i1) (.ref i2) (.ref i3) ∧ (∃ x y u, IsTupOf3 h TO x y u) ∧ h.IsTupleIter i1 a i ∧ h.IsTupleIter i2 b i ∧ h.IsTupleIter i3 c i) where
  mem := List.mem_cons_self
  obj := fun i h ⟨hz, hTI, ⟨x, y, u, hTO⟩, ⟨o1, e1, _, d1⟩, ⟨o2, e2, _, d2⟩, ⟨o3, e3, _, d3⟩⟩ b hb => by
    simp only [List.mem_cons, List.not_mem_nil, or_false] at hb
    rcases hb with q | q | q | q | q | q <;> rw [q]
    · exact ⟨_, hz, fun v q => nomatch q⟩
    · exact ⟨_, hTI, fun v q => nomatch q⟩
    · exact ⟨_, hTO, fun v q => nomatch q⟩
    · exact ⟨o1, e1, fun v q => by rw [d1] at q; cases q⟩
    · exact ⟨o2, e2, fun v q => by rw [d2] at q; cases q⟩
    · exact ⟨o3, e3, fun v q => by rw [d3] at q; cases q⟩
  keep := fun i h h' ⟨hz, hTI, ⟨x, y, u, hTO⟩, h1, h2, h3⟩ k => ⟨k z (by simp) _ hz, k TI (by simp) _ hTI, ⟨x, y, u, k TO (by simp) _ hTO⟩, h1.at fun o q => k i1 (by simp) o q, h2.at fun o q => k i2 (by simp) o q, h3.at fun o q => k i3 (by simp) o q⟩
  item := by
    intro X hP hw hK hc i pins s σ H E I hf ⟨hz, hTI, ⟨y1, y2, y3, hTO⟩, st1, st2, st3⟩ ⟨xs, ys, zs, x, y, u, q1, q2, q3, g1, g2, g3⟩
    subst hP hw hK
    obtain ⟨its1, rv1, tp1, _⟩ := I.tuple q1
    obtain ⟨its2, rv2, tp2, _⟩ := I.tuple q2
    obtain ⟨its3, rv3, tp3, _⟩ := I.tuple q3
    obtain ⟨v1, hu1, ru1⟩ := rv1.get g1
    obtain ⟨v2, hu2, ru2⟩ := rv2.get g2
    obtain ⟨v3, hu3, ru3⟩ := rv3.get g3
    have apt : ∀ {t it : Addr} {its : Array Value}, PyProof.Rows.IsTup s.heap t its → s.heap.IsTupleIter it t i → t ≠ it := fun {t it its} ⟨ot, hot, hct, _⟩ ⟨oi, hoi, hci, _⟩ => apart_obj hot hoi (by rw [hct, hci]; decide)
    have D1 := Draws.tuple (prog := X.prog) (w := X.w) (A := X.A.in1) (I.ok.hd hc) i1 a (apt tp1 st1) its1.toArray
    have D2 := Draws.tuple (prog := X.prog) (w := X.w) (A := X.A.in1) (I.ok.hd hc) i2 b (apt tp2 st2) its2.toArray
    have D3 := Draws.tuple (prog := X.prog) (w := X.w) (A := X.A.in1) (I.ok.hd hc) i3 c (apt tp3 st3) its3.toArray
    have lt : ∀ {its : List Value} {v : Value}, its[i]? = some v → i < its.toArray.size := fun {its v} q => by simpa using (List.getElem?_eq_some_iff.mp q).1
    have bnd : ∀ b ∈ [z, TI, TO, i1, i2, i3], b < s.heap.objs.size := fun b hb => by
      simp only [List.mem_cons, List.not_mem_nil, or_false] at hb
      rcases hb with q | q | q | q | q | q <;> rw [q]
      · exact Heap.lt_size hz
      · exact Heap.lt_size hTI
      · exact Heap.lt_size hTO
      · obtain ⟨_, q, _⟩ := st1; exact Heap.lt_size q
      · obtain ⟨_, q, _⟩ := st2; exact Heap.lt_size q
      · obtain ⟨_, q, _⟩ := st3; exact Heap.lt_size q
    refine wpAny_pyNext_zipD3_item S D1 D2 D3 hz hTI hTO ⟨st1, tp1⟩ ⟨st2, tp2⟩ ⟨st3, tp3⟩ (lt hu1) (lt hu2) (lt hu3) fun w1 w2 w3 h' tk e1 e2 e3 hz1 hTO1 d1 d2 d3 hT hsz hk => ?_
    have i1' : w1 = v1 := by rw [List.getElem?_toArray, hu1] at e1; exact (Option.some.inj e1).symm
    have i2' : w2 = v2 := by rw [List.getElem?_toArray, hu2] at e2; exact (Option.some.inj e2).symm
    have i3' : w3 = v3 := by rw [List.getElem?_toArray, hu3] at e3; exact (Option.some.inj e3).symm
    subst i1' i2' i3'
    refine ⟨_, rfl, wpAny_letOwnedTupleGo_zip (s := { s with heap := h', toks := tk }) hz1 fun h2 hz2 sb => ?_⟩
    have nz : z < s.heap.objs.size := Heap.lt_size hz
    have hT2 : h2.get? s.heap.objs.size = some { cls := .type "tuple", data := .seq #[w1, w2, w3] } := (sb.2 _ (Nat.ne_of_gt nz)).trans hT
    have kp : ∀ b ob, b ∉ [z, TI, TO, i1, i2, i3] → s.heap.get? b = some ob → h2.get? b = some ob := fun b ob hb q => by
      simp only [List.mem_cons, List.not_mem_nil, or_false, not_or] at hb
      exact (sb.2 b hb.1).trans (hk b ob hb.1 hb.2.2.1 hb.2.2.2.1 hb.2.2.2.2.1 hb.2.2.2.2.2 q)
    have nw : ObjOk X.prog X.w (upd H s.heap.objs.size (.tup [x, y, u])) h2 s.heap.objs.size (.tup [x, y, u]) := ⟨by show 3 ≤ sizeLine; decide, [w1, w2, w3], .cons ru1 (.cons ru2 (.cons ru3 .nil)), ⟨_, hT2, rfl, _, rfl⟩⟩
    have J : Inv X pins σ (upd H s.heap.objs.size (.tup [x, y, u])) { s with heap := h2, toks := tk } := I.turnedNew (ch := [z, TI, TO, i1, i2, i3]) kp hf (Nat.le_refl _) nw
    refine ⟨.ref s.heap.objs.size, _, J, rfl, ⟨_, x, y, u, rfl, I.hok.fresh (Nat.le_refl _), rfl, fun l hl => by rw [tuple_inj I hl q1]; exact g1, fun l hl => by rw [tuple_inj I hl q2]; exact g2, fun l hl => by rw [tuple_inj I hl q3]; exact g3⟩,
      ⟨hz2, (sb.2 TI S.TIz).trans (hk _ _ S.TIz S.TITO S.TIi1 S.TIi2 S.TIi3 hTI), ⟨_, _, _, (sb.2 TO S.TOz).trans hTO1⟩, d1.1.at fun o q => (sb.2 i1 (Ne.symm S.zi1)).trans q, d2.1.at fun o q => (sb.2 i2 (Ne.symm S.zi2)).trans q, d3.1.at fun o q => (sb.2 i3 (Ne.symm S.zi3)).trans q⟩, fun b hb => ?_⟩
    rw [upd_ne (Nat.ne_of_lt (bnd b hb))]
    exact (hf b hb).1
  done := by
    intro X hP hw hK hc i pins s σ H E I hf ⟨hz, hTI, ⟨y1, y2, y3, hTO⟩, st1, st2, st3⟩ ⟨xs, ys, zs, q1, q2, q3, hle, hend⟩
    subst hP hw hK
    obtain ⟨its1, rv1, tp1, _⟩ := I.tuple q1
    obtain ⟨its2, rv2, tp2, _⟩ := I.tuple q2
    obtain ⟨its3, rv3, tp3, _⟩ := I.tuple q3
    have apt : ∀ {t it : Addr} {its : Array Value}, PyProof.Rows.IsTup s.heap t its → s.heap.IsTupleIter it t i → t ≠ it := fun {t it its} ⟨ot, hot, hct, _⟩ ⟨oi, hoi, hci, _⟩ => apart_obj hot hoi (by rw [hct, hci]; decide)
    have D1 := Draws.tuple (prog := X.prog) (w := X.w) (A := X.A.in1) (I.ok.hd hc) i1 a (apt tp1 st1) its1.toArray
    have D2 := Draws.tuple (prog := X.prog) (w := X.w) (A := X.A.in1) (I.ok.hd hc) i2 b (apt tp2 st2) its2.toArray
    have D3 := Draws.tuple (prog := X.prog) (w := X.w) (A := X.A.in1) (I.ok.hd hc) i3 c (apt tp3 st3) its3.toArray
    rw [rv1.length, rv2.length, rv3.length] at hle hend
    refine wpAny_pyNext_zipD3_end S D1 D2 D3 hz hTI hTO ⟨st1, tp1⟩ ⟨st2, tp2⟩ ⟨st3, tp3⟩ (by simpa using hle.1) (by simpa using hle.2.1) (by simpa using hle.2.2) (by simpa using hend) fun h' tk hk => ⟨rfl, ?_⟩
    refine I.turnedL (t' := tk) (ch := [z, TI, TO, i1, i2, i3]) (fun b o hb q => ?_) hf
    simp only [List.mem_cons, List.not_mem_nil, or_false, not_or] at hb
    exact hk b o hb.1 hb.2.2.1 hb.2.2.2.1 hb.2.2.2.2.1 hb.2.2.2.2.2 q
  self := fun A i s Q E st h => wpAny_pyIter_zip st.1 h
def zip2D : List D → List D → List D
  | a :: l, b :: m => .tup [a, b] :: zip2D l m
  | _, _ => []
def zip3D : List D → List D → List D → List D
  | a :: l, b :: m, c :: n => .tup [a, b, c] :: zip3D l m n
  | _, _, _ => []
theorem zip2D_len : ∀ l m : List D, (zip2D l m).length = min l.length m.length
  | [], _ => by simp [zip2D]
  | _ :: _, [] => by simp [zip2D]
  | a :: l, b :: m => by simp [zip2D, zip2D_len l m]
theorem zip2D_get : ∀ (l m : List D) (i : Nat) (a b : D), l[i]? = some a → m[i]? = some b → (zip2D l m)[i]? = some (.tup [a, b])
  | [], _, _, _, _, h, _ => by simp at h
  | _ :: _, [], _, _, _, _, h => by simp at h
  | a :: l, b :: m, 0, _, _, h1, h2 => by simp at h1 h2; subst h1 h2; rfl
  | a :: l, b :: m, i + 1, x, y, h1, h2 => by simpa [zip2D] using zip2D_get l m i x y (by simpa using h1) (by simpa using h2)
theorem zip3D_len : ∀ l m n : List D, (zip3D l m n).length = min (min l.length m.length) n.length
  | [], _, _ => by simp [zip3D]
  | _ :: _, [], _ => by simp [zip3D]
  | _ :: _, _ :: _, [] => by simp [zip3D]
  | a :: l, b :: m, c :: n => by simp [zip3D, zip3D_len l m n]
theorem zip3D_get : ∀ (l m n : List D) (i : Nat) (a b c : D), l[i]? = some a → m[i]? = some b → n[i]? = some c → (zip3D l m n)[i]? = some (.tup [a, b, c])
  | [], _, _, _, _, _, _, h, _, _ => by simp at h
  | _ :: _, [], _, _, _, _, _, _, h, _ => by simp at h
  | _ :: _, _ :: _, [], _, _, _, _, _, _, h => by simp at h
  | a :: l, b :: m, c :: n, 0, _, _, _, h1, h2, h3 => by simp at h1 h2 h3; subst h1 h2 h3; rfl
  | a :: l, b :: m, c :: n, i + 1, x, y, z, h1, h2, h3 => by simpa [zip3D] using zip3D_get l m n i x y z (by simpa using h1) (by simpa using h2) (by simpa using h3)
section
variable {X : Cx} {G : Gx} {H : Hp} {M : Mp}
theorem it_z3 (gk : Gk G) (hK : G.K = X.K) {p1 p2 p3 : Addr} {l m n : List D} {us vs ws : List V} (x : TupAt G M.F H p1 us) (rx : RVs G M H l us) (y : TupAt G M.F H p2 vs) (ry : RVs G M H m vs) (z : TupAt G M.F H p3 ws) (rz : RVs G M H n ws) : ItOk G M H (zip3D l m n) (Iz3 X.K p1 p2 p3) := by
  intro h2 M2 H2 e r2
  have x2 := (x.keep e).sq hK
  have y2 := (y.keep e).sq hK
  have z2 := (z.keep e).sq hK
  have rx2 := rx.keep gk e
  have ry2 := ry.keep gk e
  have rz2 := rz.keep gk e
  refine ⟨fun i hi => ?_, fun i hi => ⟨us, vs, ws, x2, y2, z2, ?_, ?_⟩⟩
  · rw [zip3D_len] at hi
    have i1 : i < l.length := by omega
    have i2 : i < m.length := by omega
    have i3 : i < n.length := by omega
    obtain ⟨u, e1, r1⟩ := rx2.get (List.getElem?_eq_getElem i1)
    obtain ⟨v, e2, r2'⟩ := ry2.get (List.getElem?_eq_getElem i2)
    obtain ⟨w, e3, r3⟩ := rz2.get (List.getElem?_eq_getElem i3)
    refine ⟨⟨us, vs, ws, u, v, w, x2, y2, z2, e1, e2, e3⟩, fun t H3 ht => ?_⟩
    obtain ⟨T, a, b, c, rfl, hT, rfl, ha, hb, hc⟩ := ht
    have ea : a = u := by have := ha us x2; rw [e1] at this; exact (Option.some.inj this).symm
    have eb : b = v := by have := hb vs y2; rw [e2] at this; exact (Option.some.inj this).symm
    have ec : c = w := by have := hc ws z2; rw [e3] at this; exact (Option.some.inj this).symm
    subst ea eb ec
    obtain ⟨M3, f1, f2, f3⟩ := new_tup gk r2 hT (.cons r1 (.cons r2' (.cons r3 .nil)))
    exact ⟨_, M3, zip3D_get l m n i _ _ _ (List.getElem?_eq_getElem i1) (List.getElem?_eq_getElem i2) (List.getElem?_eq_getElem i3), f1, f2, f3⟩
  · rw [← rx.length, ← ry.length, ← rz.length]; rw [zip3D_len] at hi; omega
  · rw [← rx.length, ← ry.length, ← rz.length]; rw [zip3D_len] at hi; omega
theorem it_z2T (gk : Gk G) (hK : G.K = X.K) {p1 p2 : Addr} {l m : List D} {us vs : List V} (x : TupAt G M.F H p1 us) (rx : RVs G M H l us) (y : TupAt G M.F H p2 vs) (ry : RVs G M H m vs) : ItOk G M H (zip2D l m) (RZ.ItzT X.K p1 p2) := by
  intro h2 M2 H2 e r2
  have x2 := (x.keep e).sq hK
  have y2 := (y.keep e).sq hK
  have rx2 := rx.keep gk e
  have ry2 := ry.keep gk e
  refine ⟨fun i hi => ?_, fun i hi => ⟨us, vs, x2, y2, ?_⟩⟩
  · rw [zip2D_len] at hi
    have i1 : i < l.length := by omega
    have i2 : i < m.length := by omega
    obtain ⟨u, e1, r1⟩ := rx2.get (List.getElem?_eq_getElem i1)
    obtain ⟨v, e2, r2'⟩ := ry2.get (List.getElem?_eq_getElem i2)
    refine ⟨⟨us, vs, u, v, x2, y2, e1, e2⟩, fun t H3 ht => ?_⟩
    obtain ⟨T, a, b, rfl, hT, rfl, ha, hb⟩ := ht
    have ea : a = u := by have := ha us x2; rw [e1] at this; exact (Option.some.inj this).symm
    have eb : b = v := by have := hb vs y2; rw [e2] at this; exact (Option.some.inj this).symm
    subst ea eb
    obtain ⟨M3, f1, f2, f3⟩ := new_tup gk r2 hT (.cons r1 (.cons r2' .nil))
    exact ⟨_, M3, zip2D_get l m i _ _ (List.getElem?_eq_getElem i1) (List.getElem?_eq_getElem i2), f1, f2, f3⟩
  · rw [← rx.length, ← ry.length]; rw [zip2D_len] at hi; omega
theorem it_z2L (gk : Gk G) {p1 p2 : Addr} {l m : List D} (x : ∀ M2 H2, Keep M H M2 H2 → ∃ vs, SqL X.K H2 p1 vs ∧ RVs G M2 H2 l vs) (y : ∀ M2 H2, Keep M H M2 H2 → ∃ vs, SqL X.K H2 p2 vs ∧ RVs G M2 H2 m vs) : ItOk G M H (zip2D l m) (Itz X.K p1 p2) := by
  intro h2 M2 H2 e r2
  obtain ⟨us, x2, rx2⟩ := x M2 H2 e
  obtain ⟨vs, y2, ry2⟩ := y M2 H2 e
  refine ⟨fun i hi => ?_, fun i hi => ⟨us, vs, x2, y2, ?_⟩⟩
  · rw [zip2D_len] at hi
    have i1 : i < l.length := by omega
    have i2 : i < m.length := by omega
    obtain ⟨u, e1, r1⟩ := rx2.get (List.getElem?_eq_getElem i1)
    obtain ⟨v, e2, r2'⟩ := ry2.get (List.getElem?_eq_getElem i2)
    refine ⟨⟨us, vs, u, v, x2, y2, e1, e2⟩, fun t H3 ht => ?_⟩
    obtain ⟨T, a, b, rfl, hT, rfl, ha, hb⟩ := ht
    have ea : a = u := by have := ha us x2; rw [e1] at this; exact (Option.some.inj this).symm
    have eb : b = v := by have := hb vs y2; rw [e2] at this; exact (Option.some.inj this).symm
    subst ea eb
    obtain ⟨M3, f1, f2, f3⟩ := new_tup gk r2 hT (.cons r1 (.cons r2' .nil))
    exact ⟨_, M3, zip2D_get l m i _ _ (List.getElem?_eq_getElem i1) (List.getElem?_eq_getElem i2), f1, f2, f3⟩
  · rw [← rx2.length, ← ry2.length]; rw [zip2D_len] at hi; omega
end
theorem bt_zip : bootBuiltins "zip" = some (.type "zip") := by decide +kernel
def iZip3 (K : PySem.W.Frag) (ta : TA) : TI := fun σ H R => ta σ H fun vs H1 => ∃ a b c xs ys zs, vs = [.ref a, .ref b, .ref c] ∧ SqT K H1 a xs ∧ SqT K H1 b ys ∧ SqT K H1 c zs ∧ R (Iz3 K a b c) H1
theorem pi_zip3 {X : Cx} {e e2 e3 : Expr} {ta : TA} {p pos tpos : Pos} {elts : List Expr} {kk : Nat} (hg : Gl X "zip") (hm : X.mg "zip" = none) (ha : PA X [e, e2, e3] ta)
    (hs : starEach [e, e2, e3] X.env = (false, eval e X.env) :: starEach [e2, e3] X.env) (hpl : (backTo pos (starEach [e2, e3] X.env)).any (·.1) = false) :
    PI X (.Tuple elts kk tpos) (.Call (.Name "zip" p) [e, e2, e3] [] pos) (iZip3 X.K ta) := by
  refine ⟨fun pins s σ H R I h => ?_⟩
  refine PyProof.Rows.Call_ (ld_blt I hg hm bt_zip (PyProof.Rows.callWith_type1 (thn (ha.run pos pins s σ H _ I h) fun us s1 ⟨vs, H1, I1, r1, q1⟩ => ?_) hs hpl))
  obtain ⟨a, b, c, xs, ys, zs, ex, qa, qb, qc, q⟩ := q1
  subst ex
  cases r1 with
  | cons p1 rr =>
  cases rr with
  | cons p2 rr =>
  cases rr with
  | cons p3 rr =>
  cases rr
  cases p1; cases p2; cases p3
  obtain ⟨ia, va, ta, _⟩ := I1.tuple qa
  obtain ⟨ib, vb, tb, _⟩ := I1.tuple qb
  obtain ⟨ic, vc, tc, _⟩ := I1.tuple qc
  have lt : ∀ {t : Addr} {its : Array Value}, PyProof.Rows.IsTup s1.heap t its → ∀ b ∈ [t], b < s1.heap.objs.size := fun {t its} ⟨o, ho, _⟩ b hb => by rw [List.mem_singleton.mp hb]; exact Heap.lt_size ho
  have sp := zip_sep3 (N := s1.heap.objs.size) (lt ta) (lt tb) (lt tc)
  refine zip_begins3 (begins_tuple _ ia.toArray) (begins_tuple _ ib.toArray) (begins_tuple _ ic.toArray) ta tb tc fun h' hz hTI hTO hi1 hi2 hi3 hsz kp => wpAny_pyIter_zip hz ?_
  have I2 : Inv X pins σ H1 { s1 with heap := h' } := I1.kept (t' := s1.toks) kp
  refine ⟨s1.heap.objs.size + 5, [s1.heap.objs.size + 5, s1.heap.objs.size + 3, s1.heap.objs.size + 4, s1.heap.objs.size, s1.heap.objs.size + 1, s1.heap.objs.size + 2], _, _, H1, rfl, I2, turn_z3 sp, ⟨hz, hTI, ⟨_, _, _, hTO⟩, ⟨_, hi1, rfl, rfl⟩, ⟨_, hi2, rfl, rfl⟩, ⟨_, hi3, rfl, rfl⟩⟩, fun b hb => ?_, q⟩
  have hle : s1.heap.objs.size ≤ b := by
    simp only [List.mem_cons, List.not_mem_nil, or_false] at hb
    rcases hb with q | q | q | q | q | q <;> rw [q] <;> first | exact Nat.le_refl _ | exact Nat.le_add_right _ _
  exact I1.fpOk hle (I1.hok.fresh hle)
/-- a tuple; a list that is written no more -/
def tupE : D → Option (List D)
  | .tup l => some l
  | _ => none
def zip2E (a b : D) : Option (List D) := match a, b with
  | .tup l, .tup m => some (zip2D l m)
  | .lst l, .lst m => some (zip2D l m)
  | _, _ => none
theorem lst_sq {X : Cx} {G : Gx} {M : Mp} {H : Hp} (gk : Gk G) {l : List D} {v : V} (r : RV G M H (.lst l) v) : ∃ p vs, v = .ref p ∧ SqL X.K H p vs ∧ RVs G M H l vs ∧ ∀ M2 H2, Keep M H M2 H2 → ∃ vs, SqL X.K H2 p vs ∧ RVs G M2 H2 l vs := by
  cases r with
  | lst hf ro =>
    have ro' := ro
    cases ro with
    | lst h1 rr =>
      refine ⟨_, _, rfl, SqL.of h1, rr, fun M2 H2 e => ?_⟩
      cases ro'.keep gk e (e.k _ hf).2 with
      | lst h r => exact ⟨_, SqL.of h, r⟩
/-- zip of two tuples, of two lists -/
def Ib.zip2 (x y : Xp) : Ib where
  sem r h := (x.sem r h).bind fun d h1 => (y.sem r h1).bind fun e h2 => ofO (zip2E d e) h2
  ok ck a := match a with
    | .Call (.Name f _) [u, v] [] _ => f == ("zip" : Str) && globB ck f && x.ok ck u && y.ok ck v
    | _ => false
  need t := BtL t "zip" ∧ x.need t ∧ y.need t
  tgt := isTupE
  set _ a h := by cases a <;> first | rfl | (simp at h)
  snd {X G ck k Wx tg a} C ht h n := by
    cases tg <;> simp only [isTupE, Bool.false_eq_true] at ht
    split at h
    · simp only [Bool.and_eq_true, beq_iff_eq] at h
      obtain ⟨⟨⟨rfl, hg⟩, h2⟩, h3⟩ := h
      obtain ⟨g1, g2, g3⟩ := gl_of C hg
      have hs := x.star _ _ h2
      have hs2 := y.star _ _ h3
      refine PI.imp (RZ.pi_zipA g1 (by rw [← C.hmg]; exact n.1) (pa_cons (x.snd C h2 n.2.1) (pa_cons (y.snd C h3 n.2.2) pa_nil (star_cons hs2 _)) (star_cons hs _)) (star_cons hs _) (stars_of (by simp [hs2]))) fun σ H R ⟨r, hh, M, rl, re, k⟩ => ⟨r, hh, M, rl, re, oneI k fun d v h1 M1 H1 e1 r1 b1 k1 => ⟨r, h1, M1, r1, re.ext C.gk rl e1, oneI k1 fun e u h2 M2 H2 e2 r2 b2 k2 => ?_⟩⟩
      have b1 := b1.ext C.gk r1 e2
      unfold zip2E at k2
      split at k2
      · cases b1 with
        | tup x1 y1 =>
          cases b2 with
          | tup x2 y2 => exact ⟨_, _, _, _, rfl, .inr ⟨x1.sq C.hK, x2.sq C.hK, k2 _ M2 H2 Ext.refl r2 (it_z2T C.gk C.hK x1 y1 x2 y2)⟩⟩
      · obtain ⟨p1, vs1, rfl, q1, w1, z1⟩ := lst_sq (X := X) C.gk b1
        obtain ⟨p2, vs2, rfl, q2, w2, z2⟩ := lst_sq (X := X) C.gk b2
        exact ⟨_, _, _, _, rfl, .inl ⟨q1, q2, k2 _ M2 H2 Ext.refl r2 (it_z2L C.gk z1 z2)⟩⟩
      · exact k2.elim
    · cases h
def zip3E (a b c : D) : Option (List D) := match a, b, c with
  | .tup l, .tup m, .tup n => some (zip3D l m n)
  | _, _, _ => none
/-- zip of three tuples -/
def Ib.zip3 (x y z : Xp) : Ib where
  sem r h := (x.sem r h).bind fun d h1 => (y.sem r h1).bind fun e h2 => (z.sem r h2).bind fun f h3 => ofO (zip3E d e f) h3
  ok ck a := match a with
    | .Call (.Name f _) [u, v, w] [] _ => f == ("zip" : Str) && globB ck f && x.ok ck u && y.ok ck v && z.ok ck w
    | _ => false
  need t := BtL t "zip" ∧ x.need t ∧ y.need t ∧ z.need t
  tgt := isTupE
  set _ a h := by cases a <;> first | rfl | (simp at h)
  snd {X G ck k Wx tg a} C ht h n := by
    cases tg <;> simp only [isTupE, Bool.false_eq_true] at ht
    split at h
    · simp only [Bool.and_eq_true, beq_iff_eq] at h
      obtain ⟨⟨⟨⟨rfl, hg⟩, h2⟩, h3⟩, h4⟩ := h
      obtain ⟨g1, g2, g3⟩ := gl_of C hg
      have hs := x.star _ _ h2
      have hs2 := y.star _ _ h3
      have hs3 := z.star _ _ h4
      refine PI.imp (pi_zip3 g1 (by rw [← C.hmg]; exact n.1) (pa_cons (x.snd C h2 n.2.1) (pa_cons (y.snd C h3 n.2.2.1) (pa_cons (z.snd C h4 n.2.2.2) pa_nil (star_cons hs3 _)) (star_cons hs2 _)) (star_cons hs _)) (star_cons hs _) (stars_of (by simp [hs2, hs3]))) fun σ H R ⟨r, hh, M, rl, re, k⟩ => ⟨r, hh, M, rl, re, oneI k fun d v h1 M1 H1 e1 r1 b1 k1 => ⟨r, h1, M1, r1, re.ext C.gk rl e1, oneI k1 fun e u h2 M2 H2 e2 r2 b2 k2 => ⟨r, h2, M2, r2, (re.ext C.gk rl e1).ext C.gk r1 e2, oneI k2 fun f w h3 M3 H3 e3 r3 b3 k3 => ?_⟩⟩⟩
      have b1 := (b1.ext C.gk r1 e2).ext C.gk r2 e3
      have b2 := b2.ext C.gk r2 e3
      unfold zip3E at k3
      split at k3
      · cases b1 with
        | tup x1 y1 =>
          cases b2 with
          | tup x2 y2 =>
            cases b3 with
            | tup x3 y3 => exact ⟨_, _, _, _, _, _, rfl, x1.sq C.hK, x2.sq C.hK, x3.sq C.hK, k3 _ M3 H3 Ext.refl r3 (it_z3 C.gk C.hK x1 y1 x2 y2 x3 y3)⟩
      · exact k3.elim
    · cases h
end Pf

set_option Elab.async false
set_option linter.all false
set_option maxRecDepth 100000
/-! ## try that runs through, a new list by +, own len -/
namespace Pf
open PySem L2
def noXo : Out → Out
  | .exc _ _ _ _ => .no
  | o => o
@[simp] theorem noXo_nx {r : Rho} {h : Hh} : noXo (.nx r h) = .nx r h := rfl
@[simp] theorem noXo_rt {d : D} {h : Hh} : noXo (.rt d h) = .rt d h := rfl
@[simp] theorem noXo_no : noXo .no = .no := rfl
theorem Cok.nox {X : Cx} {G : Gx} {ck : Ck} {k : Nat} {Wx : WX} (C : Cok X G ck k Wx) : Cok X.nox G ck k (fun _ _ _ _ => False) :=
  ⟨C.hK, C.hmg, C.hN, C.hsc, C.calm, C.nd, C.room, fun _ _ ⟨_, _, _, _, _, _, _, _, _, _, _, _, _, _, _, _, z⟩ => z, PassesOwn.never, C.fn, C.gk⟩
/-- try: .. except ..: .., where the body raises nothing -/
def Sm.tryN (a : List Si) : Sm where
  sem r h := noXo (semSs a r h)
  ok ck st := match st with
    | .Try b hs [] [] _ => okSs a ck b && !hs.isEmpty
    | _ => false
  need z := needSs a z
  snd {X G ck k Wx st} C hk h n := by
    split at h
    · rename_i b hs p
      simp only [Bool.and_eq_true, Bool.not_eq_true'] at h
      cases hs with
      | nil => simp at h
      | cons h0 hs =>
        refine PS.imp (ps_try_thru0 (sndSs a (C.nox) hk h.1 n)) fun Dn σ H ⟨M0, H0, r, hh, M, s, k⟩ => ⟨M0, H0, r, hh, M, s, ?_⟩
        dsimp only at k
        cases q : semSs a r hh <;> rw [q] at k <;> first | exact k | exact (show False from k).elim
    · cases h
/-- x + y, lists, as a new thing -/
def Xn.add (x : Xo) (y : Xo) : Xn where
  sem r h := (x.sem r h).bind fun d h1 => (y.sem r h1).bind fun e h2 => match vw h2 d, vw h2 e with
    | some (.lst l), some (.lst m) => if l.length + m.length ≤ line then .ok (.lst (l ++ m)) h2 else .no
    | _, _ => .no
  ok ck a := match a with
    | .BinOp u .Add v _ => x.ok ck u && y.ok ck v
    | _ => false
  need t := x.need t ∧ y.need t
  star _ a h := by cases a <;> first | rfl | (simp at h)
  snd {X G ck k Wx a} C h n := by
    split at h
    · simp only [Bool.and_eq_true] at h
      refine PE.imp (pe_op op_cat (x.snd C h.1 n.1) (y.snd C h.2 n.2)) fun σ H Qv ⟨r, h, M, rl, re, k⟩ => ⟨r, h, M, rl, re, one k fun d v h1 M1 H1 e1 r1 b1 k1 =>
        ⟨r, h1, M1, r1, re.ext C.gk rl e1, one k1 fun e u h2 M2 H2 e2 r2 b2 k2 => ?_⟩⟩
      try dsimp only at k2
      split at k2
      · rename_i l m q1 q2
        split at k2
        · rename_i hk
          obtain ⟨p1, vs1, rfl, h1, rv1⟩ := (vw_ok r2 (b1.ext C.gk r1 e2) q1).lst
          obtain ⟨p2, vs2, rfl, h2, rv2⟩ := (vw_ok r2 b2 q2).lst
          exact ⟨_, _, _, _, rfl, rfl, h1, h2, by rw [← rv1.length, ← rv2.length, ← line_eq]; exact hk, fun p hp => kn_list C.gk (e1.trans e2) r2 (rv1.append rv2) k2 p hp⟩
        · exact k2.elim
      · exact k2.elim
    · cases h
/-! ### len(x), x an instance of a slot class with its own __len__ -/
def LenL (t : Tb) (c : Nat) (F : Fsem) : Prop := ∃ C g fd ps, t.G.mg (nmC c) = some (.ref C) ∧ isSl c = true ∧ PySem.W.findIn t.G.K (.ref C) "__len__" = some (some (.ref g)) ∧ PySem.W.isFn t.G.K (.ref g) = true ∧ Binds t.G.K fd ps [] ∧ FnOk t.P t.w t.G.K t.G.mg t.base (CX t.P t.w) t.k g fd ps (lift t.G F)
def lenR : Res D → Res D
  | .ok (.int n) h => if 0 ≤ n ∧ n < 9223372036854775808 then .ok (.int n) h else .no
  | _ => .no
def rLenO (G : Gx) (c : Nat) (F : Fsem) : List V → Hp → VK → Prop := fun vs H Qv => ∃ d d' v h M n h', vs = [v] ∧ RL G h M H ∧ RV G M H d v ∧ vw h d = some d' ∧ isIns c d' = true ∧ F [d] h = .ok (.int n) h' ∧ 0 ≤ n ∧ n < 9223372036854775808 ∧ KP G h' M H (.int n) Qv
theorem call_lenO {X : Cx} {G : Gx} {ck : Ck} {k : Nat} {Wx : WX} (C : Cok X G ck k Wx) {c : Nat} {F : Fsem} (t : LenL (tbOf X G k) c F) : CallR X (.builtin "len") (rLenO G c F) := by
  intro pins s σ H vs us Qv I rvs ⟨d, d', v, h, M, n, h', ev, rl, rv, e, hi, eF, n0, n1, q⟩
  subst ev
  obtain ⟨u, rfl, ru⟩ := rvs.one
  obtain ⟨Ca, g, fd, ps, hm, hsl, hl, hf, hb, Fo⟩ := t
  dsimp only at hm hl hf hb Fo
  rw [C.hK] at hl hf hb Fo
  rw [C.hmg] at Fo
  cases d' <;> simp only [isIns, Bool.false_eq_true] at hi
  have hi := eq_of_beq hi
  subst hi
  obtain ⟨a, rfl, ro⟩ := (vw_ok rl (.inl rv) e).thing trivial
  obtain rfl : u = Value.ref a := ru
  have hs : lift G F ([.ref a] ++ []) H (fun z H' => ∃ i, z = .int i ∧ 0 ≤ i ∧ i < 9223372036854775808 ∧ Qv z H') (fun _ _ _ => False) := ⟨[d], h, M, rl, .cons rv .nil, by
    rw [eF]
    exact fun v2 M' H' e' rl' rv' => by cases rv'; exact ⟨n, rfl, n0, n1, q _ M' H' e' rl' (.int _)⟩⟩
  have FR : FnR X.prog X.w X.K X.mg X.base (L2.CX X.prog X.w) k g (fun vs H Q E => lift G F (vs ++ []) H Q E) := FnOk.raw Fo hb .nil
  have hx : Passes (L2.CX X.prog X.w) X (fun _ _ _ => False) := fun pins σ H s e s' _ ⟨_, _, _, _, _, _, _, _, _, _, _, _, z⟩ => z.elim
  have fin : ∀ {vsl : List (Option V)} {dx : Addr}, SlX.Slt H a Ca dx vsl → wpAny (model X.prog X.w) X.A (call (.builtin "len") [.ref a]) (EP X pins σ Qv) X.xe s := by
    intro vsl dx hh
    obtain ⟨sl, od, _, J, _⟩ := SlX.slt_inst I hh
    obtain ⟨m, hF⟩ := I.fr
    refine PySem.W.len_K hF I.ok.mod.kin J hl hf (wpAny_mono (wpAny_call (SlX.run_at (us := [.ref a]) (ws := [.ref a]) FR (C.room.mono (by omega) : Room (k + 1) X.A).in1 I.env0.in1 hx I (.cons rfl .nil) hs)) (fun w s' z => ?_) fun _ _ x => x)
    obtain ⟨z', H', I', rz, i, ei, i0, i1, qz⟩ := z
    subst ei
    obtain ⟨t, e⟩ := (show ∃ t, w = Value.int i t from rz)
    cases e
    exact ⟨⟨i0, by simpa using i1⟩, .int i, H', I'.tok _, ⟨_, rfl⟩, qz⟩
  cases ro with
  | ins i m hh r => rw [hsl] at i; cases i
  | sl0 i m hh =>
    rw [hm] at m; cases m
    exact fin (.inl ⟨hh, rfl⟩)
  | sl1 i m hh hF hxd so r =>
    rw [hm] at m; cases m
    exact fin (.inr ⟨hh, hxd⟩)
def Xp.lenO (c : Nat) (F : Fsem) (x : Xp) : Xp where
  sem r h := (x.sem r h).bind fun d h1 => match vw h1 d with
    | some d' => if isIns c d' then lenR (F [d] h1) else .no
    | none => .no
  ok ck a := match a with
    | .Call (.Name f _) [e] [] _ => f == ("len" : Str) && globB ck f && x.ok ck e
    | _ => false
  need t := BtL t "len" ∧ LenL t c F ∧ x.need t
  star _ a h := by cases a <;> first | rfl | (simp at h)
  snd {X G ck k Wx a} C h n := by
    split at h
    · simp only [Bool.and_eq_true, beq_iff_eq] at h
      obtain ⟨⟨rfl, hg⟩, h2⟩ := h
      obtain ⟨g1, g2, g3⟩ := gl_of C hg
      have hs := x.star _ _ h2
      refine PE.imp (pe_callB (call_lenO C n.2.1) g1 (by rw [← C.hmg]; exact n.1) bt_len (pa_cons (x.snd C h2 n.2.2) pa_nil (star_cons hs _)) g3 g2 (star_cons hs _) (stars_of (by simp))) fun σ H Qv ⟨r, hh, M, rl, re, k⟩ => ⟨r, hh, M, rl, re, one k fun d v h1 M1 H1 e1 r1 b1 k1 => ?_⟩
      try dsimp only at k1
      split at k1
      · rename_i d' q
        split at k1
        · rename_i hi
          cases q2 : F [d] h1 with
          | no => rw [q2] at k1; exact k1.elim
          | exc c fs h' => rw [q2] at k1; exact k1.elim
          | ok z h' =>
            rw [q2] at k1
            cases z with
            | int n =>
              simp only [lenR] at k1
              split at k1
              · rename_i hn
                exact ⟨d, d', v, h1, M1, n, h', rfl, r1, b1, q, hi, q2, hn.1, hn.2, k1⟩
              · exact k1.elim
            | _ => exact k1.elim
        · exact k1.elim
      · exact k1.elim
    · cases h
end Pf

set_option Elab.async false
set_option linter.all false
set_option maxRecDepth 100000
set_option maxHeartbeats 1000000
/-! ## tuple(zip(a, b)) of two tuples -/
namespace Pf
open PySem L2
section
variable {prog : Program} {w : World} {A : Around} {E : Value → Shared → Prop} {s : Shared} {z TI TO T i1 i2 l1 l2 : Addr} {f : Bool} {oT : Obj} {k1 k2 : Nat} {xs ys : Array Value}
theorem zipT_held {x y : Value} {Q : Option Value → Shared → Prop} (D : ZipApart z TI TO i1 i2 l1 l2) (hz : IsZipHeld s.heap z TI TO T f) (hT : s.heap.get? T = some oT) (hTI : IsPair s.heap TI (.ref i1) (.ref i2)) (h1 : s.heap.IsTupleIter i1 l1 k1) (h2 : s.heap.IsTupleIter i2 l2 k2) (hl1 : s.heap.IsTuple l1 xs) (hl2 : s.heap.IsTuple l2 ys) (hx : xs[k1]? = some x) (hy : ys[k2]? = some y)
    (hQ : ∀ h', IsZipHeld h' z TI TO T true → h'.IsTupleIter i1 l1 (k1 + 1) → h'.IsTupleIter i2 l2 (k2 + 1) → IsPair h' s.heap.objs.size x y → h'.objs.size = s.heap.objs.size + 1 → (∀ c o, c ≠ z → c ≠ i1 → c ≠ i2 → s.heap.get? c = some o → h'.get? c = some o) → Q (some (.ref s.heap.objs.size)) { s with heap := h' }) :
    wpAny (model prog w) A (pyNext (.ref z)) Q E s := by
  have hTy : s.TypeIs (.ref z) "zip" := ⟨_, hz, rfl⟩
  unfold pyNext
  refine wpAny_bind (wpAny_attempt (wpAny_callSpecial?_slot (name := Str.ofString "__next__") hTy F.slot_zip_next (wpAny_call_entry F.slot_zip_next hTy F.entry_zip_next ?_ (F.args_zip_next_1 _))))
  show wpAny _ _ (field (.ref z) 2 >>= _) _ _ _
  refine wpAny_bind (wpAny_field hz rfl (x := .bool false) rfl ?_)
  show wpAny _ _ (field (.ref z) 3 >>= _) _ _ _
  refine wpAny_bind (wpAny_field hz rfl (x := .ref TI) rfl (wpAny_bind (wpAny_seqItems hTI rfl ?_)))
  show wpAny _ _ (Builtin.SmallTypes.ownedTupleIsFree (.ref z) >>= _) _ _ _
  refine wpAny_bind (wpAny_tupleHeld_zip hz hT fun h₁ hz₁ hs₁ => ?_)
  simp only [Bool.false_eq_true, if_false]
  refine wpAny_bind ?_
  rw [← Array.forIn_toList]
  simp only [List.forIn_cons, List.forIn_nil]
  refine wpAny_bind (wpAny_bind (wpAny_holding ?_))
  show wpAny _ _ (Builtin.SmallTypes.nextOf (.ref i1) >>= _) _ _ _
  refine wpAny_bind (RZ.nextOf_tuple_item (s := { s with heap := h₁ }) (h1.extBut hs₁.extBut D.i1z) (hl1.extBut hs₁.extBut D.l1z) hx fun h₂ h1₂ hs₂ => wpAny_pure (wpAny_pure (wpAny_bind (wpAny_bind (wpAny_holding ?_)))))
  show wpAny _ _ (Builtin.SmallTypes.nextOf (.ref i2) >>= _) _ _ _
  refine wpAny_bind (RZ.nextOf_tuple_item (s := { s with heap := h₂ }) ((h2.extBut hs₁.extBut D.i2z).extBut hs₂.extBut D.i12.symm) ((hl2.extBut hs₁.extBut D.l2z).extBut hs₂.extBut D.l2i1) hy fun h₃ h2₃ hs₃ => wpAny_pure (wpAny_pure (wpAny_pure ?_)))
  show wpAny _ _ (newTuple [x, y] >>= _) _ _ _
  refine wpAny_bind (wpAny_newTuple ?_)
  have hsz : h₃.objs.size = s.heap.objs.size := by rw [hs₃.1, hs₂.1, hs₁.1]
  have hz₃ : IsZipHeld h₃ z TI TO T true := hs₃.extBut _ _ D.i2z.symm (hs₂.extBut _ _ D.i1z.symm hz₁)
  have hk : ∀ c o, c ≠ z → c ≠ i1 → c ≠ i2 → s.heap.get? c = some o → h₃.get? c = some o := fun c o c1 c2 c3 e => hs₃.extBut _ _ c3 (hs₂.extBut _ _ c2 (hs₁.extBut _ _ c1 e))
  have h1₃ : h₃.IsTupleIter i1 l1 (k1 + 1) := h1₂.extBut hs₃.extBut D.i12
  refine wpAny_pure ⟨_, rfl, wpAny_pure ?_⟩
  show Q (some (.ref h₃.objs.size)) _
  have hp : IsPair (h₃.push { cls := .type "tuple", data := .seq #[x, y] }) h₃.objs.size x y := Heap.get?_push_size _ rfl
  have hz4 : (h₃.push { cls := .type "tuple", data := .seq #[x, y] }).objs.size = h₃.objs.size + 1 := Heap.size_push ..
  rw [hsz] at hp hz4 ⊢
  exact hQ _ (Heap.get?_push_of_some _ hz₃) (h1₃.at fun o e => Heap.get?_push_of_some _ e) (h2₃.at fun o e => Heap.get?_push_of_some _ e) hp hz4 fun c o c1 c2 c3 e => Heap.get?_push_of_some _ (hk c o c1 c2 c3 e)
theorem zipT_heldEnd {Q : Option Value → Shared → Prop} (hh : A.handled = none) (D : ZipApart z TI TO i1 i2 l1 l2) (hz : IsZipHeld s.heap z TI TO T f) (hT : s.heap.get? T = some oT) (hTI : IsPair s.heap TI (.ref i1) (.ref i2)) (h1 : s.heap.IsTupleIter i1 l1 k1) (h2 : s.heap.IsTupleIter i2 l2 k2) (hl1 : s.heap.IsTuple l1 xs) (hl2 : s.heap.IsTuple l2 ys) (hend : xs[k1]? = none ∨ ys[k2]? = none)
    (hQ : ∀ h', (∀ c o, c ≠ z → c ≠ i1 → c ≠ i2 → s.heap.get? c = some o → h'.get? c = some o) → Q none { s with heap := h' }) :
    wpAny (model prog w) A (pyNext (.ref z)) Q E s := by
  have hTy : s.TypeIs (.ref z) "zip" := ⟨_, hz, rfl⟩
  have stop : ∀ (h' : Heap) (e : Addr), (∀ c o, c ≠ z → c ≠ i1 → c ≠ i2 → s.heap.get? c = some o → h'.get? c = some o) → (∃ o, h'.get? e = some o ∧ o.cls = .type "StopIteration") →
      wpAny (model prog w) A (isInstance (.ref e) (.type "StopIteration")) (fun b s' => wpAny (model prog w) A (if b = true then pure none else throw (Value.ref e)) Q E s') E { s with heap := h' } := fun h' e hk ⟨o, ho, hc⟩ =>
    wpAny_isInstance (T := "StopIteration") (b := true) ⟨o, ho, hc⟩ isSubtype_stop (wpAny_pure (hQ _ hk))
  unfold pyNext
  refine wpAny_bind (wpAny_attempt (wpAny_callSpecial?_slot (name := Str.ofString "__next__") hTy F.slot_zip_next (wpAny_call_entry F.slot_zip_next hTy F.entry_zip_next ?_ (F.args_zip_next_1 _))))
  show wpAny _ _ (field (.ref z) 2 >>= _) _ _ _
  refine wpAny_bind (wpAny_field hz rfl (x := .bool false) rfl ?_)
  show wpAny _ _ (field (.ref z) 3 >>= _) _ _ _
  refine wpAny_bind (wpAny_field hz rfl (x := .ref TI) rfl (wpAny_bind (wpAny_seqItems hTI rfl ?_)))
  show wpAny _ _ (Builtin.SmallTypes.ownedTupleIsFree (.ref z) >>= _) _ _ _
  refine wpAny_bind (wpAny_tupleHeld_zip hz hT fun h₁ hz₁ hs₁ => ?_)
  simp only [Bool.false_eq_true, if_false]
  refine wpAny_bind ?_
  rw [← Array.forIn_toList]
  simp only [List.forIn_cons, List.forIn_nil]
  refine wpAny_bind (wpAny_bind (wpAny_holding ?_))
  show wpAny _ _ (Builtin.SmallTypes.nextOf (.ref i1) >>= _) _ _ _
  cases hx : xs[k1]? with
  | none =>
    refine wpAny_bind (RZ.nextOf_tuple_end (s := { s with heap := h₁ }) hh (h1.extBut hs₁.extBut D.i1z) (hl1.extBut hs₁.extBut D.l1z) hx fun h₂ e hs₂ he => ?_)
    exact wpAny_bind (stop h₂ e (fun c o c1 c2 _ x => hs₂ _ _ c2 (hs₁.extBut _ _ c1 x)) he)
  | some x =>
    have hy : ys[k2]? = none := hend.resolve_left (by rw [hx]; exact fun h => nomatch h)
    refine wpAny_bind (RZ.nextOf_tuple_item (s := { s with heap := h₁ }) (h1.extBut hs₁.extBut D.i1z) (hl1.extBut hs₁.extBut D.l1z) hx fun h₂ h1₂ hs₂ => wpAny_pure (wpAny_pure (wpAny_bind (wpAny_bind (wpAny_holding ?_)))))
    show wpAny _ _ (Builtin.SmallTypes.nextOf (.ref i2) >>= _) _ _ _
    refine wpAny_bind (RZ.nextOf_tuple_end (s := { s with heap := h₂ }) hh ((h2.extBut hs₁.extBut D.i2z).extBut hs₂.extBut D.i12.symm) ((hl2.extBut hs₁.extBut D.l2z).extBut hs₂.extBut D.l2i1) hy fun h₃ e hs₃ he => ?_)
    exact wpAny_bind (stop h₃ e (fun c o c1 c2 c3 x => hs₃ _ _ c3 (hs₂.extBut _ _ c2 (hs₁.extBut _ _ c1 x))) he)
/-- the zip at a place of its walk -/
structure Zst (h : Heap) (z TI TO i1 i2 l1 l2 S : Addr) (xs ys : Array Value) (i : Nat) : Prop where
  ti : IsPair h TI (.ref i1) (.ref i2)
  a1 : h.IsTupleIter i1 l1 i
  a2 : h.IsTupleIter i2 l2 i
  t1 : h.IsTuple l1 xs
  t2 : h.IsTuple l2 ys
  to : TO < h.objs.size
  st : (IsZip h z TI TO .none ∧ ∃ a b, IsPair h TO a b) ∨ ∃ T f oT, IsZipHeld h z TI TO T f ∧ h.get? T = some oT ∧ T ≠ z ∧ T ≠ i1 ∧ T ≠ i2 ∧ T ≠ S
/-- what was collected -/
def Zac (h : Heap) (z TO i1 i2 S : Addr) (xs ys : Array Value) (acc : List Value) : Prop := acc.Nodup ∧ ∀ (j : Nat) v, acc[j]? = some v → ∃ (T : Addr) (x y : Value), v = .ref T ∧ IsPair h T x y ∧ xs[j]? = some x ∧ ys[j]? = some y ∧ (T ≠ z ∧ T ≠ TO ∧ T ≠ i1 ∧ T ≠ i2 ∧ S < T)
theorem Zac.keep {h h' : Heap} {S : Addr} {acc : List Value} (a : Zac h z TO i1 i2 S xs ys acc) (k : ∀ c o, c ≠ z → c ≠ TO → c ≠ i1 → c ≠ i2 → c ≠ S → h.get? c = some o → h'.get? c = some o) : Zac h' z TO i1 i2 S xs ys acc := ⟨a.1, fun j v e => by
  obtain ⟨T, x, y, rfl, p, q1, q2, n1, n2, n3, n4, n5⟩ := a.2 j v e
  exact ⟨T, x, y, rfl, k _ _ n1 n2 n3 n4 (Nat.ne_of_gt n5) p, q1, q2, n1, n2, n3, n4, n5⟩⟩
theorem zloop {R : Result → Shared → Prop} {S : Addr} {res : Value} (hh : A.handled = none) (D : ZipApart z TI TO i1 i2 l1 l2) (hS : S ≠ z ∧ S ≠ TI ∧ S ≠ TO ∧ S ≠ i1 ∧ S ≠ i2 ∧ S ≠ l1 ∧ S ≠ l2) (hn : min xs.size ys.size ≤ 1000) :
    ∀ (k i : Nat) (s : Shared) (acc : List Value) (c : Nat), min xs.size ys.size - i = k → i ≤ min xs.size ys.size → Zst s.heap z TI TO i1 i2 l1 l2 S xs ys i → s.heap.get? S = some { cls := .type "list", data := .seq acc.toArray c } → acc.length = i → Zac s.heap z TO i1 i2 S xs ys acc →
    (∀ h' acc', (∀ c o, c ≠ z → c ≠ TO → c ≠ i1 → c ≠ i2 → c ≠ S → s.heap.get? c = some o → h'.get? c = some o) → (∃ c', h'.get? S = some { cls := .type "list", data := .seq acc'.toArray c' }) → acc'.length = min xs.size ys.size → Zac h' z TO i1 i2 S xs ys acc' → R (.ok (.ret res)) { s with heap := h' }) →
    codeAny (model prog w) A (.builtin "list.extend.loop" ⟨[.ref S, .ref z, res], []⟩) R s := by
  have tup_at : ∀ {h h' : Heap} {l : Addr} {its : Array Value}, h.IsTuple l its → (∀ o, h.get? l = some o → h'.get? l = some o) → h'.IsTuple l its := fun {h h' l its} ⟨o, e, q⟩ k => ⟨o, k o e, q⟩
  intro k
  induction k with
  | zero =>
    intro i s acc c hk hi Z hSl hlen hac hR
    refine codeAny_builtin F.entry_extend_loop ?_
    rw [Around.under_plainId F.plain_extend_loop _]
    show wpAny _ A.in1 (pyNext (.ref z) >>= _) _ _ s
    have he : xs[i]? = none ∨ ys[i]? = none := by
      by_cases q : xs.size ≤ ys.size
      · exact .inl (by simp; omega)
      · exact .inr (by simp; omega)
    rcases Z.st with ⟨hz, a, b, hTO⟩ | ⟨T, f, oT, hz, hT, n1, n2, n3, n4⟩
    · refine wpAny_bind (RZ.pyNext_zipT_end (A := A.in1) hh D hz Z.ti hTO Z.a1 Z.a2 Z.t1 Z.t2 he fun h' hk' => wpAny_pure ?_)
      exact hR h' acc (fun c o c1 c2 c3 c4 _ e => hk' c o c1 c2 c3 c4 e) ⟨c, hk' S _ hS.1 hS.2.2.1 hS.2.2.2.1 hS.2.2.2.2.1 hSl⟩ (by omega) (hac.keep fun c o c1 c2 c3 c4 _ e => hk' c o c1 c2 c3 c4 e)
    · refine wpAny_bind (zipT_heldEnd (A := A.in1) hh D hz hT Z.ti Z.a1 Z.a2 Z.t1 Z.t2 he fun h' hk' => wpAny_pure ?_)
      exact hR h' acc (fun c o c1 c2 c3 c4 _ e => hk' c o c1 c3 c4 e) ⟨c, hk' S _ hS.1 hS.2.2.2.1 hS.2.2.2.2.1 hSl⟩ (by omega) (hac.keep fun c o c1 c2 c3 c4 _ e => hk' c o c1 c3 c4 e)
  | succ k ih =>
    intro i s acc c hk hi Z hSl hlen hac hR
    have hx1 : i < xs.size := by omega
    have hy1 : i < ys.size := by omega
    have hx := Array.getElem?_eq_getElem hx1
    have hy := Array.getElem?_eq_getElem hy1
    refine codeAny_builtin F.entry_extend_loop ?_
    rw [Around.under_plainId F.plain_extend_loop _]
    show wpAny _ A.in1 (pyNext (.ref z) >>= _) _ _ s
    have nxt : ∀ (h' : Heap), (∀ c o, c ≠ z → c ≠ TO → c ≠ i1 → c ≠ i2 → s.heap.get? c = some o → h'.get? c = some o) → h'.objs.size = s.heap.objs.size + 1 → h'.IsTupleIter i1 l1 (i + 1) → h'.IsTupleIter i2 l2 (i + 1) → IsPair h' s.heap.objs.size xs[i] ys[i] →
        (∃ T f oT, IsZipHeld h' z TI TO T f ∧ h'.get? T = some oT ∧ T ≠ z ∧ T ≠ i1 ∧ T ≠ i2 ∧ T ≠ S) →
        wpAny (model prog w) A.in1 (updateSeq S (·.push (.ref s.heap.objs.size))) (fun _ s' => codeAny (model prog w) A (.builtin "list.extend.loop" ⟨[.ref S, .ref z, res], []⟩) R s') (fun e s' => R (.error e) s') { s with heap := h' } := by
      intro h' k' hsz b1 b2 bp ⟨T, f, oT, bz, bT, n1, n2, n3, n4⟩
      have hS' := k' S _ hS.1 hS.2.2.1 hS.2.2.2.1 hS.2.2.2.2.1 hSl
      have zl : z < s.heap.objs.size := by rcases Z.st with ⟨q, _⟩ | ⟨_, _, _, q, _⟩ <;> exact Heap.lt_size q
      have Sl := Heap.lt_size hSl
      have i1l : i1 < s.heap.objs.size := by obtain ⟨_, q, _⟩ := Z.a1; exact Heap.lt_size q
      have i2l : i2 < s.heap.objs.size := by obtain ⟨_, q, _⟩ := Z.a2; exact Heap.lt_size q
      have tol := Z.to
      refine wpAny_updateSeq hS' rfl ?_ (by rw [List.size_toArray, sizeLine_eq]; omega) (by show (acc.toArray.push _).size ≤ _; rw [Array.size_push, List.size_toArray, sizeLine_eq]; omega)
      have sb := fun (c : Addr) (o : Obj) (hc : c ≠ S) (e : h'.get? c = some o) => (Heap.get?_update_other h' (Obj.mapSeq (·.push (Value.ref s.heap.objs.size))) (Ne.symm hc)).trans e
      have up : ∀ c o, c ≠ z → c ≠ TO → c ≠ i1 → c ≠ i2 → c ≠ S → s.heap.get? c = some o → (h'.update S (Obj.mapSeq (·.push (Value.ref s.heap.objs.size)))).get? c = some o := fun c o c1 c2 c3 c4 c5 e => sb c o c5 (k' c o c1 c2 c3 c4 e)
      refine ih (i + 1) _ (acc ++ [.ref s.heap.objs.size]) _ (by omega) (by omega) ⟨up _ _ D.TIz D.TITO D.TIi1 D.TIi2 hS.2.1.symm Z.ti, b1.at fun o e => sb _ o hS.2.2.2.1.symm e, b2.at fun o e => sb _ o hS.2.2.2.2.1.symm e, tup_at Z.t1 fun o e => up _ o D.l1z D.l1TO D.l1i1 D.l1i2 hS.2.2.2.2.2.1.symm e, tup_at Z.t2 fun o e => up _ o D.l2z D.l2TO D.l2i1 D.l2i2 hS.2.2.2.2.2.2.symm e,
        by show TO < (h'.update S _).objs.size; rw [Heap.size_update, hsz]; exact Nat.lt_succ_of_lt tol, .inr ⟨T, f, oT, sb _ _ hS.1.symm bz, sb _ _ n4 bT, n1, n2, n3, n4⟩⟩ (by rw [← List.push_toArray]; exact Heap.get?_update_self (Obj.mapSeq (·.push (Value.ref s.heap.objs.size))) hS' rfl) (by simp [hlen]) ⟨?_, fun j v e => ?_⟩ fun h2 acc' k2 hS2 hl2 ha2 => hR h2 acc' (fun c o c1 c2 c3 c4 c5 e => k2 c o c1 c2 c3 c4 c5 (up c o c1 c2 c3 c4 c5 e)) hS2 hl2 ha2
      · refine List.nodup_append.mpr ⟨hac.1, by simp, fun v hv w hw q => ?_⟩
        rw [List.mem_singleton.mp hw] at q
        obtain ⟨j, hj⟩ := List.mem_iff_getElem?.mp hv
        obtain ⟨T, x, y, rfl, p, _⟩ := hac.2 j v hj
        injection q with q
        exact absurd (Heap.lt_size p) (by rw [q]; exact Nat.lt_irrefl _)
      by_cases hj : j < acc.length
      · rw [List.getElem?_append_left hj] at e
        exact (hac.keep up).2 j v e
      · rw [List.getElem?_append_right (by omega)] at e
        obtain ⟨hj2, e⟩ := List.getElem?_eq_some_iff.mp e
        have hji : j = i := by simp at hj2; omega
        subst hji
        refine ⟨s.heap.objs.size, xs[j], ys[j], ?_, sb _ _ (Nat.ne_of_gt Sl) bp, hx, hy, Nat.ne_of_gt zl, Nat.ne_of_gt tol, Nat.ne_of_gt i1l, Nat.ne_of_gt i2l, Sl⟩
        rw [← e]; simp
    rcases Z.st with ⟨hz, a, b, hTO⟩ | ⟨T, f, oT, hz, hT, n1, n2, n3, n4⟩
    · refine wpAny_bind (RZ.pyNext_zipT_item (A := A.in1) D hz Z.ti hTO Z.a1 Z.a2 Z.t1 Z.t2 hx hy fun h' c1 c2 c3 c4 c5 c6 c7 => ?_)
      show wpAny _ A.in1 (updateSeq S (·.push (.ref s.heap.objs.size)) >>= _) _ _ _
      have zl : z < s.heap.objs.size := Heap.lt_size hz
      have i1l : i1 < s.heap.objs.size := by obtain ⟨_, q, _⟩ := Z.a1; exact Heap.lt_size q
      have i2l : i2 < s.heap.objs.size := by obtain ⟨_, q, _⟩ := Z.a2; exact Heap.lt_size q
      exact wpAny_bind (wpAny_mono (nxt h' c7 c6 c3 c4 c5 ⟨s.heap.objs.size, false, _, c1, c5, Nat.ne_of_gt zl, Nat.ne_of_gt i1l, Nat.ne_of_gt i2l, Nat.ne_of_gt (Heap.lt_size hSl)⟩) (fun _ s' q => wpAny_pure ⟨plainId_quiet F.plain_extend_loop _, q⟩) fun _ _ e => e)
    · refine wpAny_bind (zipT_held (A := A.in1) D hz hT Z.ti Z.a1 Z.a2 Z.t1 Z.t2 hx hy fun h' c1 c3 c4 c5 c6 c7 => ?_)
      show wpAny _ A.in1 (updateSeq S (·.push (.ref s.heap.objs.size)) >>= _) _ _ _
      exact wpAny_bind (wpAny_mono (nxt h' (fun c o c1 _ c3 c4 e => c7 c o c1 c3 c4 e) c6 c3 c4 c5 ⟨T, true, oT, c1, c7 _ _ n1 n2 n3 hT, n1, n2, n3, n4⟩) (fun _ s' q => wpAny_pure ⟨plainId_quiet F.plain_extend_loop _, q⟩) fun _ _ e => e)
theorem nolen_zip : typeLookup (.type "zip") "__len__" = pure none := by rw [typeLookup_type, builtinLookup_eq_fast]; kernel_rfl
theorem nohint_zip : typeLookup (.type "zip") "__length_hint__" = pure none := by rw [typeLookup_type, builtinLookup_eq_fast]; kernel_rfl
/-- collect of a new zip -/
theorem collect_zip {Q : List Value → Shared → Prop} {a b : Value} (hh : A.handled = none) (D : ZipApart z TI TO i1 i2 l1 l2) (hn : min xs.size ys.size ≤ 1000) (hz : IsZip s.heap z TI TO .none) (hTI : IsPair s.heap TI (.ref i1) (.ref i2)) (hTO : IsPair s.heap TO a b) (h1 : s.heap.IsTupleIter i1 l1 0) (h2 : s.heap.IsTupleIter i2 l2 0) (hl1 : s.heap.IsTuple l1 xs) (hl2 : s.heap.IsTuple l2 ys)
    (hQ : ∀ h' acc, (∀ c o, c ≠ z → c ≠ TO → c ≠ i1 → c ≠ i2 → s.heap.get? c = some o → h'.get? c = some o) → acc.length = min xs.size ys.size → Zac h' z TO i1 i2 s.heap.objs.size xs ys acc → Q acc { s with heap := h' }) : wpAny (model prog w) A (collect (.ref z)) Q E s := by
  have lt : ∀ {c : Addr} {o : Obj}, s.heap.get? c = some o → s.heap.objs.size ≠ c := fun q => Nat.ne_of_gt (Heap.lt_size q)
  have ne : s.heap.objs.size ≠ z ∧ s.heap.objs.size ≠ TI ∧ s.heap.objs.size ≠ TO ∧ s.heap.objs.size ≠ i1 ∧ s.heap.objs.size ≠ i2 ∧ s.heap.objs.size ≠ l1 ∧ s.heap.objs.size ≠ l2 := ⟨lt hz, lt hTI, lt hTO, by obtain ⟨_, q, _⟩ := h1; exact lt q, by obtain ⟨_, q, _⟩ := h2; exact lt q, by obtain ⟨_, q, _⟩ := hl1; exact lt q, by obtain ⟨_, q, _⟩ := hl2; exact lt q⟩
  unfold collect
  refine wpAny_bind (wpAny_runValue (codeAny_builtin F.entry_proto_collect ?_))
  rw [Around.under_plainId F.plain_proto_collect _]
  show wpAny _ A.in1 (newList [] >>= fun l => again (.builtin "list.__iadd__" ⟨[l, .ref z], []⟩)) _ _ s
  refine wpAny_bind (wpAny_newObj_type (wpAny_pure ⟨plainId_quiet F.plain_list_iadd _, codeAny_builtin F.entry_list_iadd ?_⟩))
  rw [Around.under_plainId F.plain_list_iadd _]
  show wpAny _ A.in1 (Builtin.List.listExtendWith (.ref s.heap.objs.size) (.ref z) (.ref s.heap.objs.size)) _ _ _
  have up := fun (c : Addr) (o : Obj) (e : s.heap.get? c = some o) => Heap.get?_push_of_some { cls := .type "list", data := .seq ([] : List Value).toArray } e
  have hz1 := up _ _ hz
  have hT : ({ s with heap := s.heap.push { cls := .type "list", data := .seq ([] : List Value).toArray } } : Shared).TypeIs (.ref z) "zip" := ⟨_, hz1, rfl⟩
  unfold Builtin.List.listExtendWith
  refine wpAny_bind (wpAny_typeOf hT ?_)
  have e1 : Builtin.List.listSameRef (.ref s.heap.objs.size) (.ref z) = false := by simp [Builtin.List.listSameRef, ne.1]
  have e2 : (Value.type "zip" == Value.type "list") = false := by decide
  have e3 : (Value.type "zip" == Value.type "tuple") = false := by decide
  simp only [e1, e2, e3, Bool.or_false, Bool.false_eq_true, if_false]
  refine wpAny_bind (wpAny_pyIter_zip hz1 (wpAny_bind (wpAny_holding ?_)))
  unfold Builtin.List.listLengthHint
  refine wpAny_bind (wpAny_specialOf hT nolen_zip ?_)
  show wpAny _ A.in1 (specialOf (Value.ref z) (Str.ofString "__length_hint__") >>= _) _ _ _
  refine wpAny_bind (wpAny_specialOf hT nohint_zip (wpAny_pure ?_))
  show wpAny _ A.in1 (rule "list.extend.makes-room" >>= fun _ => Builtin.List.listTouch (.ref s.heap.objs.size) >>= fun _ => again (.builtin "list.extend.loop" ⟨[.ref s.heap.objs.size, .ref z, .ref s.heap.objs.size], []⟩)) _ _ _
  refine wpAny_bind (wpAny_rule (wpAny_bind ?_))
  have hS₁ : (s.heap.push { cls := .type "list", data := .seq ([] : List Value).toArray }).get? s.heap.objs.size = some { cls := .type "list", data := .seq ([] : List Value).toArray } := Heap.get?_push_size _ rfl
  show wpAny _ A.in1 (updateSeq s.heap.objs.size (·.push .none) >>= fun _ => updateSeq s.heap.objs.size (·.pop)) _ _ _
  have hS₂ := Heap.get?_update_self (Obj.mapSeq (·.push Value.none)) hS₁ rfl
  refine wpAny_bind (wpAny_updateSeq hS₁ rfl (wpAny_updateSeq hS₂ rfl ?_))
  obtain ⟨c3, hS₃⟩ : ∃ c3, (((s.heap.push { cls := .type "list", data := .seq ([] : List Value).toArray }).update s.heap.objs.size (Obj.mapSeq (·.push Value.none))).update s.heap.objs.size (Obj.mapSeq (·.pop))).get? s.heap.objs.size = some { cls := .type "list", data := .seq ([] : List Value).toArray c3 } := ⟨_, (Heap.get?_update_self (Obj.mapSeq (·.pop)) hS₂ rfl).trans (by simp [Obj.mapSeq]; rfl)⟩
  have oth : ∀ b o, s.heap.get? b = some o → (((s.heap.push { cls := .type "list", data := .seq ([] : List Value).toArray }).update s.heap.objs.size (Obj.mapSeq (·.push Value.none))).update s.heap.objs.size (Obj.mapSeq (·.pop))).get? b = some o :=
    fun b o e => (Heap.get?_update_other _ _ (lt e)).trans ((Heap.get?_update_other _ _ (lt e)).trans (up b o e))
  have tup_at : ∀ {h h' : Heap} {l : Addr} {its : Array Value}, h.IsTuple l its → (∀ o, h.get? l = some o → h'.get? l = some o) → h'.IsTuple l its := fun {h h' l its} ⟨o, e, q⟩ k => ⟨o, k o e, q⟩
  refine wpAny_pure ⟨plainId_quiet F.plain_extend_loop _, zloop (A := A) hh D ne hn _ 0 _ [] c3 rfl (Nat.zero_le _) ⟨oth _ _ hTI, h1.at fun o e => oth _ o e, h2.at fun o e => oth _ o e, tup_at hl1 fun o e => oth _ o e, tup_at hl2 fun o e => oth _ o e, Heap.lt_size (oth _ _ hTO), .inl ⟨oth _ _ hz, _, _, oth _ _ hTO⟩⟩ hS₃ rfl ⟨List.nodup_nil, fun j v e => by simp at e⟩ fun h' acc' k' ⟨c', hS'⟩ hl ha => ?_⟩
  show wpAny _ A (load s.heap.objs.size >>= _) _ _ _
  refine wpAny_bind (wpAny_load hS' (wpAny_pure ?_))
  exact hQ h' acc' (fun c o c1 c2 c3 c4 e => k' c o c1 c2 c3 c4 (lt e).symm (oth c o e)) hl ha
/-- tuple(z), z a new zip of two tuples -/
theorem call_tuple_zip {Q : Value → Shared → Prop} {a b : Value} (hh : A.handled = none) (D : ZipApart z TI TO i1 i2 l1 l2) (hn : min xs.size ys.size ≤ 1000) (hz : IsZip s.heap z TI TO .none) (hTI : IsPair s.heap TI (.ref i1) (.ref i2)) (hTO : IsPair s.heap TO a b) (h1 : s.heap.IsTupleIter i1 l1 0) (h2 : s.heap.IsTupleIter i2 l2 0) (hl1 : s.heap.IsTuple l1 xs) (hl2 : s.heap.IsTuple l2 ys)
    (hQ : ∀ h' acc, (∀ c o, c ≠ z → c ≠ TO → c ≠ i1 → c ≠ i2 → s.heap.get? c = some o → h'.get? c = some o) → acc.length = min xs.size ys.size → Zac h' z TO i1 i2 s.heap.objs.size xs ys acc → Q (.ref h'.objs.size) { s with heap := h'.push { cls := .type "tuple", data := .seq acc.toArray } }) :
    wpAny (model prog w) A (call (.type "tuple") [.ref z]) Q E s := by
  have cd : ∀ {Q₁ : Value → Shared → Prop}, (∀ h' acc, (∀ c o, c ≠ z → c ≠ TO → c ≠ i1 → c ≠ i2 → s.heap.get? c = some o → h'.get? c = some o) → acc.length = min xs.size ys.size → Zac h' z TO i1 i2 s.heap.objs.size xs ys acc → Q₁ (.ref h'.objs.size) { s with heap := h'.push { cls := .type "tuple", data := .seq acc.toArray } }) →
      codeAny (model prog w) A.in1 (.call (.builtin "tuple.__new__") ⟨[.type "tuple", .ref z], []⟩) (wants Q₁ E) s := by
    intro Q₁ h
    refine codeAny_of_tree ?_
    show wpAny _ A.in1.in1 (do checkBuiltinCall "tuple.__new__" ⟨[.type "tuple", .ref z], []⟩; again (.builtin "tuple.__new__" ⟨[.type "tuple", .ref z], []⟩)) _ _ s
    refine wpAny_bind (wpAny_of_eq (F.newCall_tuple_1 _) (wpAny_pure ⟨plainId_quiet F.plain_tuple_new _, codeAny_builtin F.entry_tuple_new ?_⟩))
    rw [Around.under_plainId F.plain_tuple_new _]
    have hsub := sub_tuple_self
    have hinit := init_tuple_lookup
    have hmh := madeHere_tuple
    have hTz : s.TypeIs (.ref z) "zip" := ⟨_, hz, rfl⟩
    have hh1 : A.in1.in1.handled = none := hh
    wp_walk using wpAny_typeOf hTz, collect_zip (A := A.in1.in1) hh1 D hn hz hTI hTO h1 h2 hl1 hl2
    intro h' acc hk hl hacc
    show wpAny _ _ (Builtin.Tuple.tupleExact acc.toArray >>= fun v => ret v) _ _ _
    unfold Builtin.Tuple.tupleExact
    refine wpAny_bind (wpAny_newObj_type (wpAny_pure (h h' acc hk hl hacc)) (by show acc.toArray.size ≤ sizeLine; rw [List.size_toArray, sizeLine_eq]; omega))
  refine callType_codes (Q₁ := fun obj s₁ => s₁.TypeIs obj "tuple" ∧ Q obj s₁) F.called_tuple (F.typeCall_tuple_1 _) F.entry_object_init
    (cd fun h' acc hk hl hacc => ⟨⟨_, Heap.get?_push_size _ rfl, rfl⟩, hQ h' acc hk hl hacc⟩) fun obj s₁ q => ?_
  exact ⟨q.1, F.args_object_init_2 obj _, object_init_meets F.called_tuple.init.lookup F.called_tuple.made (by decide) prog w A.in1 _ s₁ ⟨q.1, rfl, q.2⟩⟩
end
end Pf

set_option Elab.async false
set_option linter.all false
set_option maxRecDepth 100000
set_option maxHeartbeats 1000000
/-! ## tuple(zip(a, b)): the expression -/
namespace Pf
open PySem L2
section
variable {X : Cx} {G : Gx} {pins : List (Addr × Obj)} {σ : St} {h : Hh}
theorem trk_pairs (gk : Gk G) {s : Shared} : ∀ (acc : List Value) (l m : List D) (us vs : List V) (xs ys : List Value) (H : Hp) (M : Mp), Inv X pins σ H s → RL G h M H → RVs G M H l us → RVs G M H m vs → Vals us xs → Vals vs ys → acc.length = min l.length m.length → acc.Nodup →
    (∀ (j : Nat) v, acc[j]? = some v → ∃ (T : Addr) (x y : Value), v = .ref T ∧ IsPair s.heap T x y ∧ xs[j]? = some x ∧ ys[j]? = some y ∧ FpOk X pins H T) →
    ∃ H' M' ws, Inv X pins σ H' s ∧ Ext M H M' H' ∧ RL G h M' H' ∧ RVs G M' H' (zip2D l m) ws ∧ Vals ws acc := by
  intro acc
  induction acc with
  | nil =>
    intro l m us vs xs ys H M I rl r1 r2 v1 v2 hl _ _
    have : zip2D l m = [] := by
      apply List.eq_nil_of_length_eq_zero
      rw [zip2D_len, ← hl]; rfl
    rw [this]
    exact ⟨H, M, [], I, Ext.refl, rl, .nil, .nil⟩
  | cons v acc ih =>
    intro l m us vs xs ys H M I rl r1 r2 v1 v2 hl hn ha
    cases r1 with
    | nil => simp at hl
    | cons d1 t1 =>
    cases r2 with
    | nil => simp at hl
    | cons d2 t2 =>
    cases v1 with
    | cons w1 z1 =>
    cases v2 with
    | cons w2 z2 =>
    obtain ⟨T, x, y, rfl, hp, e1, e2, fp⟩ := ha 0 v rfl
    simp only [List.getElem?_cons_zero, Option.some.injEq] at e1 e2
    subst e1 e2
    obtain ⟨hn1, hn2⟩ := List.nodup_cons.mp hn
    rename_i la u1 ls us lb u2 lm vs x1 xs y1 ys
    have I1 : Inv X pins σ (upd H T (.tup [u1, u2])) s := by
      have := Inv.take (o := .tup [u1, u2]) (h' := s.heap) (t' := s.toks) I (fun b ob _ q => q) fp ⟨by show 2 ≤ sizeLine; decide, [x1, y1], .cons w1 (.cons w2 .nil), ⟨_, hp, rfl, _, rfl⟩⟩
      exact this
    obtain ⟨M1, f1, f2, f3⟩ := new_tup gk rl fp.1 (.cons d1 (.cons d2 .nil))
    obtain ⟨H', M', ws, J, g1, g2, g3, g4⟩ := ih _ _ _ _ _ _ _ M1 I1 f2 (t1.ext gk rl f1) (t2.ext gk rl f1) z1 z2 (by simp at hl; omega) hn2 fun j v e => by
      obtain ⟨T', x, y, rfl, hp', e1, e2, q1, q2⟩ := ha (j + 1) v (by simpa using e)
      refine ⟨T', x, y, rfl, hp', by simpa using e1, by simpa using e2, ?_, q2⟩
      rw [upd_ne]
      · exact q1
      · intro z; subst z; exact hn1 (List.mem_of_getElem? e)
    exact ⟨H', M', .ref T :: ws, J, f1.trans g1, g2, .cons (f3.ext gk f2 g1) g3, .cons rfl g4⟩
end
def tzipE (a b : D) : Option D := match a, b with
  | .tup l, .tup m => if l.length ≤ 1000 then some (.tup (zip2D l m)) else none
  | _, _ => none
def tzipB (x y : Xp) (ck : Ck) (a : Expr) : Bool := match a with
  | .Call (.Name g _) [.Call (.Name f _) [u, v] [] _] [] _ => g == ("tuple" : Str) && f == ("zip" : Str) && globB ck g && globB ck f && x.ok ck u && y.ok ck v
  | _ => false
theorem tzipB_some {x y : Xp} {ck : Ck} {a : Expr} (h : tzipB x y ck a = true) : ∃ p q u v r t, a = .Call (.Name "tuple" p) [.Call (.Name "zip" q) [u, v] [] r] [] t ∧ globB ck "tuple" = true ∧ globB ck "zip" = true ∧ x.ok ck u = true ∧ y.ok ck v = true := by
  unfold tzipB at h
  split at h
  · simp only [Bool.and_eq_true, beq_iff_eq] at h
    obtain ⟨⟨⟨⟨⟨rfl, rfl⟩, h1⟩, h2⟩, h3⟩, h4⟩ := h
    exact ⟨_, _, _, _, _, _, rfl, h1, h2, h3, h4⟩
  · cases h
/-- tuple(zip(x, y)), tuples -/
def Xp.tzip (x y : Xp) : Xp where
  sem r h := (x.sem r h).bind fun d h1 => (y.sem r h1).bind fun e h2 => ofO (tzipE d e) h2
  ok := tzipB x y
  need t := BtL t "tuple" ∧ BtL t "zip" ∧ x.need t ∧ y.need t
  star _ a h := by obtain ⟨p, q, u, v, r, t, rfl, _⟩ := tzipB_some h; rfl
  snd {X G ck k Wx a} C h n := by
    obtain ⟨p, q, u, v, r, t, rfl, hg1, hg2, h3, h4⟩ := tzipB_some h
    obtain ⟨g1, _, _⟩ := gl_of C hg1
    obtain ⟨g2, _, _⟩ := gl_of C hg2
    have hs := x.star _ _ h3
    have hs2 := y.star _ _ h4
    have hm1 : X.mg "tuple" = none := by rw [← C.hmg]; exact n.1
    have hm2 : X.mg "zip" = none := by rw [← C.hmg]; exact n.2.1
    have hst : notStar (Expr.Call (.Name "zip" q) [u, v] [] r) = true := rfl
    have hA := pa_cons (x.snd C h3 n.2.2.1) (pa_cons (y.snd C h4 n.2.2.2) pa_nil (star_cons hs2 _)) (star_cons hs _)
    refine ⟨fun pins s σ H Qv I ⟨rr, hh, M, rl, re, k⟩ => ?_⟩
    refine PyProof.Rows.Call_ (ld_blt I g1 hm1 bt_tuple (PyProof.Rows.callWith_type1 ?_ (star_cons hst _) (stars_of (by simp))))
    rw [star_cons hst X.env]
    show wpAny _ _ (spliced ((false, eval (Expr.Call (.Name "zip" q) [u, v] [] r) X.env) :: backTo t (starEach [] X.env))) _ _ s
    refine Calls.spliced_cons (PyProof.Rows.Call_ (ld_blt I g2 hm2 bt_zip (PyProof.Rows.callWith_type1 (thn (hA.run _ pins s σ H (fun vs H1 => ∃ a b d e h1 M1, vs = [a, b] ∧ RL G h1 M1 H1 ∧ RV G M1 H1 d a ∧ RV G M1 H1 e b ∧ KG (RV G) G Wx σ M1 H1 Qv (ofO (tzipE d e) h1)) I ?_) fun us s1 ⟨vs, H1, I1, r1, a, b, d, e, h1, M1, ev, rl1, ra, rb, k1⟩ => ?_) (star_cons hs _) (stars_of (by simp [hs2])))))
    · exact ⟨rr, hh, M, rl, re, one k fun d v h1 M1 H1 e1 r1 b1 k1 => ⟨rr, h1, M1, r1, re.ext C.gk rl e1, one k1 fun e u h2 M2 H2 e2 r2 b2 k2 => ⟨v, u, d, e, h2, M2, rfl, r2, b1.ext C.gk r1 e2, b2, k2⟩⟩⟩
    · subst ev
      unfold tzipE at k1
      split at k1
      · split at k1
        · rename_i hlen
          cases ra with
          | tup xa ya =>
          cases rb with
          | tup xb yb =>
          cases r1 with
          | cons p1 r1 =>
          cases r1 with
          | cons p2 r1 =>
          cases r1
          cases p1; cases p2
          obtain ⟨ia, va, ta, _⟩ := I1.tuple (xa.sq C.hK)
          obtain ⟨ib, vb, tb, _⟩ := I1.tuple (xb.sq C.hK)
          have lv1 := va.length
          have lv2 := vb.length
          have ly1 := ya.length
          have ly2 := yb.length
          have lta := (show ∃ o, s1.heap.get? _ = some o from ⟨_, ta.choose_spec.1⟩)
          obtain ⟨oa, hoa⟩ := lta
          obtain ⟨ob, hob⟩ := (show ∃ o, s1.heap.get? _ = some o from ⟨_, tb.choose_spec.1⟩)
          refine RZ.call_zipT (show s1.heap.IsTuple _ ia.toArray from ta) (show s1.heap.IsTuple _ ib.toArray from tb) fun h' hz hTI hTO hi1 hi2 hsz kp => Calls.spliced_nil ?_
          have D := PySem.W.ktu_apart s1.heap.objs.size _ _ (Heap.lt_size hoa) (Heap.lt_size hob)
          have kt : ∀ {t : Addr} {its : Array Value}, PyProof.Rows.IsTup s1.heap t its → h'.IsTuple t its := fun {t its} ⟨o, q, z⟩ => ⟨o, kp _ _ q, z⟩
          refine call_tuple_zip (s := { s1 with heap := h' }) (I1.ok.hd C.calm) D (by simp; omega) hz hTI hTO hi1 hi2 (kt ta) (kt tb) fun h2 acc k2 hl hac => ?_
          have old : ∀ c o, s1.heap.get? c = some o → h2.get? c = some o := fun c o q => by
            have := Heap.lt_size q
            exact k2 c o (Nat.ne_of_lt (Nat.lt_of_lt_of_le this (Nat.le_add_right _ _))) (Nat.ne_of_lt (Nat.lt_of_lt_of_le this (Nat.le_add_right _ _))) (Nat.ne_of_lt this) (Nat.ne_of_lt (Nat.lt_of_lt_of_le this (Nat.le_add_right _ _))) (kp c o q)
          have I2 : Inv X pins σ H1 { s1 with heap := h2 } := I1.kept (t' := s1.toks) old
          obtain ⟨H', M', ws, J, e1, r2, rw2, vw2⟩ := trk_pairs (X := X) C.gk acc _ _ _ _ _ _ H1 M1 I2 rl1 ya yb va vb (by rw [hl]; simp; omega) hac.1 fun j v e => by
            obtain ⟨T, x, y, rfl, pp, q1, q2, _, _, _, _, n5⟩ := hac.2 j v e
            have hle : s1.heap.objs.size ≤ T := by
              have : h'.objs.size < T := n5
              omega
            exact ⟨T, x, y, rfl, pp, by simpa using q1, by simpa using q2, I1.fpOk hle (I1.hok.fresh hle)⟩
          have hf : H' h2.objs.size = none := J.hok.fresh (Nat.le_refl _)
          refine ⟨.ref h2.objs.size, upd H' h2.objs.size (.tup ws), J.laid (t' := s1.toks) (fun b u e => Heap.get?_push_of_some _ e) (Nat.le_refl _) ⟨?_, acc, vw2, ⟨_, Heap.get?_push_size _ rfl, rfl, _, rfl⟩⟩, rfl, ?_⟩
          · rw [vw2.length, hl, sizeLine_eq]; simp; omega
          · exact k1 _ _ _ (e1.trans (Ext.newF' hf)) (r2.newF C.gk hf (fun _ z => nomatch z)) (.tup (.inl ⟨.inr rfl, upd_same⟩) (rw2.keep C.gk (Keep.newF hf)))
        · exact k1.elim
      · exact k1.elim
end Pf

set_option Elab.async false
set_option linter.all false
set_option maxRecDepth 100000
set_option maxHeartbeats 1000000
/-! ## sorted(xs, key=f), f a def that leaves the heap -/
namespace Pf
open PySem L2
/-- the items with their keys, sorted by the keys -/
def sortByD (ds ks : List D) : List D := ((ds.zip ks).mergeSort (PySem.W.dataLe false fun p => pd p.2)).map Prod.fst
def keysOf (F : Fsem) : List D → Option (List D)
  | [] => some []
  | d :: l => match pureOf F [d] [] with
    | .ok kd _ => (keysOf F l).map (kd :: ·)
    | _ => none
theorem pure_any {F : Fsem} {ds : List D} {d : D} {h h1 h2 : Hh} (e : pureOf F ds h1 = .ok d h2) : pureOf F ds h = .ok d h := by
  unfold pureOf at e ⊢
  split at e
  · rename_i hn
    rw [if_pos hn]
    cases q : F ds [] with
    | ok d' h' =>
      rw [q] at e
      dsimp only at e ⊢
      split at e
      · rename_i hr; cases e; rw [if_pos hr]
      · cases e
    | exc c fs h' =>
      rw [q] at e
      dsimp only at e
      split at e <;> cases e
    | no => rw [q] at e; cases e
  · cases e
theorem keysOf_get {F : Fsem} (h : Hh) : ∀ {l ks : List D}, keysOf F l = some ks → ks.length = l.length ∧ ∀ (i : Nat) (d : D), l[i]? = some d → ∃ kd, ks[i]? = some kd ∧ pureOf F [d] h = .ok kd h
  | [], ks, e => by
    simp only [keysOf] at e; cases e
    exact ⟨rfl, fun i d q => by simp at q⟩
  | d :: l, ks, e => by
    simp only [keysOf] at e
    split at e
    · rename_i kd h' q
      obtain ⟨ks', e', rfl⟩ := Option.map_eq_some_iff.mp e
      obtain ⟨g1, g2⟩ := keysOf_get h e'
      refine ⟨by simp [g1], fun i d' q' => ?_⟩
      cases i with
      | zero => simp at q'; subst q'; exact ⟨kd, rfl, pure_any q⟩
      | succ i => simpa using g2 i d' (by simpa using q')
    · cases e
theorem each_keys {G : Gx} {M : Mp} {H : Hp} : ∀ {ds ks : List D} {vs : List V} {us : List Value}, ks.length = ds.length → RVs G M H ds vs → Vals vs us → PySem.W.EachIs (fun v (p : D × D) => ∃ x, RelV x v ∧ RV G M H p.1 x) us (ds.zip ks)
  | [], [], _, _, _, rv, ru => by cases rv; cases ru; exact .nil
  | d :: ds, k :: ks, _, _, hl, rv, ru => by
    cases rv with
    | cons r1 r2 =>
      cases ru with
      | cons u1 u2 => exact .cons ⟨_, u1, r1⟩ (each_keys (by simpa using hl) r2 u2)
  | [], _ :: _, _, _, hl, _, _ => by simp at hl
  | _ :: _, [], _, _, hl, _, _ => by simp at hl
theorem keys_back {G : Gx} {M : Mp} {H : Hp} : ∀ {l : List (D × D)} {us : List Value}, PySem.W.EachIs (fun v (p : D × D) => ∃ x, RelV x v ∧ RV G M H p.1 x) us l → ∃ vs, Vals vs us ∧ RVs G M H (l.map Prod.fst) vs
  | _, _, .nil => ⟨[], .nil, .nil⟩
  | _, _, .cons h t => by
    obtain ⟨x, r1, r2⟩ := h
    obtain ⟨vs, h1, h2⟩ := keys_back t
    exact ⟨x :: vs, .cons r1 h1, .cons r2 h2⟩
theorem RVs.snoc {G : Gx} {M : Mp} {H : Hp} {d : D} {v : V} : ∀ {l : List D} {vs : List V}, RVs G M H l vs → RV G M H d v → RVs G M H (l ++ [d]) (vs ++ [v])
  | _, _, .nil, h => .cons h .nil
  | _, _, .cons a t, h => .cons a (t.snoc h)
theorem vals_snoc {v : V} {u : Value} : ∀ {vs : List V} {us : List Value}, Vals vs us → RelV v u → Vals (vs ++ [v]) (us ++ [u])
  | _, _, .nil, h => .cons h .nil
  | _, _, .cons a t, h => .cons a (vals_snoc t h)
theorem get_freed {h : Heap} {a b : Addr} {o : Obj} (e : (h.update a fun o => { o with data := .freed }).get? b = some o) : b ≠ a ∧ h.get? b = some o := by
  by_cases z : b = a
  · subst z
    exfalso
    unfold Heap.get? Heap.update at e
    split at e
    · cases e
    · rename_i q2
      simp only [Array.getElem?_modify, if_true] at q2 e
      cases w : h.objs[b]? with
      | none => rw [w] at e; cases e
      | some o' =>
        rw [w] at q2
        exact q2 _ _ _ rfl
  · exact ⟨z, by rw [← Heap.get?_update_ne _ _ _ _ z]; exact e⟩
section
variable {X : Cx} {G : Gx} {ck : Ck} {k : Nat} {Wx : WX} {pins : List (Addr × Obj)} {σ : St} {H : Hp} {s : Shared} {h : Hh} {M : Mp}
theorem each_pd {h : Heap} : ∀ {us : List Value} {l : List D}, PySem.W.EachIs (fun v c => ∃ as, Reads h v (pd c) as) us l → PySem.W.EachIs (fun v d => ∃ as, Reads h v d as) us (l.map pd)
  | _, _, .nil => .nil
  | _, _, .cons a t => .cons a (each_pd t)
theorem sort_fold (C : Cok X G ck k Wx) {F : Fsem} {f : Addr} (FR : FnR X.prog X.w X.K X.mg X.base (L2.CX X.prog X.w) k f (fun vs H Q E => lift G (pureOf F) (vs ++ []) H Q E)) {a kS : Addr} {e1 : Nat} (I : Inv X pins σ H s) (ra : FbM.Rec X pins a) (rk : FbM.Rec X pins kS) (na : H a = none) (nk : H kS = none) (hka : kS ≠ a) (ga : s.heap.get? a = some (PyProof.Rows.seqObj "list" #[] e1)) (gk : s.heap.get? kS = some (PyProof.Rows.seqObj "list" #[] 0))
    (fa : ∀ H' : Hp, H' a = none → FpOk X pins H' a) (fk : ∀ H' : Hp, H' kS = none → FpOk X pins H' kS) (rl : RL G h M H) {ds ks : List D} {vs : List V} {its : List Value} (rv : RVs G M H ds vs) (ri : Vals vs its) (kl : ks.length = ds.length) (kF : ∀ (i : Nat) (d : D), ds[i]? = some d → ∃ kd, ks[i]? = some kd ∧ pureOf F [d] h = .ok kd h) (hok : sortOk ks = true) (hlen : ds.length ≤ line)
    {P : PySem.Fin → Shared → Prop} {E' : Value → Shared → Prop} (q : ∀ (M' : Mp) (H' : Hp) (ys : List V) (s3 : Shared), Inv X pins σ (upd H' a (.lst ys)) s3 → Ext M H M' H' → RL G h M' H' → H' a = none → RVs G M' H' (sortByD ds ks) ys → P (.done (.ret .none)) s3) :
    wpAny (model X.prog X.w) X.A.in1.in1 (PyProof.Rows.ksk_rest a (.ref f) false its.toArray e1 (.ref kS)) P E' s := by
  obtain ⟨o1, o2, o3⟩ := sortOk_some hok
  have ll : its.length = ds.length := by rw [← ri.length, ← rv.length]
  have hsl : its.length ≤ sizeLine := by rw [ll, ← line_eq]; exact hlen
  unfold PyProof.Rows.ksk_rest
  refine wpAny_bind (wpAny_rule ?_)
  first
    | rw [List.forIn_toArray]
    | (rw [← Array.forIn_toList]; simp only [List.toList_toArray])
  refine wpAny_bind (PyProof.Rows.ksk_fold (fun i s' => ∃ H' M' kvs kA e, Inv X pins σ H' s' ∧ Ext M H M' H' ∧ RL G h M' H' ∧ RVs G M' H' (ks.take i) kvs ∧ Vals kvs kA ∧ s'.heap.get? kS = some (PyProof.Rows.seqObj "list" (List.toArray kA) e) ∧ s'.heap.get? a = some (PyProof.Rows.seqObj "list" #[] e1) ∧ H' kS = none ∧ H' a = none) its 0 s
    ⟨H, M, [], [], 0, I, Ext.refl, rl, by simp; exact .nil, .nil, gk, ga, nk, na⟩ ?step ?done)
  case step =>
    rintro j x s' hx ⟨H', M', kvs, kA, e, I', e', rl', rk', vk', gk', ga', nk', na'⟩
    simp only [Nat.zero_add] at rk' ⊢
    have hj : j < its.length := (List.getElem?_eq_some_iff.mp hx).1
    have hd := List.getElem?_eq_getElem (l := ds) (show j < ds.length by omega)
    obtain ⟨w, hw, rw'⟩ := rv.get hd
    obtain ⟨u, hu, ru⟩ := ri.get hw
    have : u = x := Option.some.inj (hu.symm.trans hx)
    subst this
    obtain ⟨kd, hkd, eF⟩ := kF j _ hd
    have hs : lift G (pureOf F) ([w] ++ []) H' (fun z H'' => ∃ M'', Ext M' H' M'' H'' ∧ RL G h M'' H'' ∧ RV G M'' H'' kd z) (fun _ _ _ => False) := ⟨[_], h, M', rl', .cons (rw'.ext C.gk rl e') .nil, by
      rw [eF]
      exact fun v M'' H'' e2 rl2 rv2 => ⟨M'', e2, rl2, rv2⟩⟩
    have hr : Room k X.A.in1.in1 := (show Room (k + 1) X.A.in1 from Room.in1 C.room).in1
    have st : wpAny (model X.prog X.w) X.A.in1.in1 (call (.ref f) [u]) (CE X.stack X.prog X.w H' s' (fun z H'' => ∃ M'', Ext M' H' M'' H'' ∧ RL G h M'' H'' ∧ RV G M'' H'' kd z)) (fun _ _ => False) s' := by
      refine wpAny_call (codeAny_mono (FR X.A.in1.in1 X.stack s' H' [u] [w] _ _ hr I'.env0.in1.in1 (.cons ru .nil) hs) fun r s'' hq => ?_)
      cases r with
      | error e =>
        obtain ⟨_, _, _, _, _, _, _, _, _, _, _, _, z⟩ := hq
        exact z
      | ok fl => cases fl <;> first | exact hq | exact False.elim hq
    refine wpAny_bind (wpAny_attempt (wpAny_mono st (fun v s'' ce => ?_) fun _ _ z => False.elim z))
    obtain ⟨z, H'', os, bare, un, hk, rz, M'', e2, rl2, rv2⟩ := ce
    have I2 : Inv X pins σ H'' s'' := I'.call' os un hk bare (fun b y => absurd y List.not_mem_nil)
    have gk2 := un.keep _ _ gk' nk' rk.fr List.not_mem_nil
    have ga2 := un.keep _ _ ga' na' ra.fr List.not_mem_nil
    have nk2 := un.free _ _ gk' nk' List.not_mem_nil
    have na2 := un.free _ _ ga' na' List.not_mem_nil
    try dsimp only
    have s1 := Heap.SameBut.update s''.heap kS (Obj.mapSeq (·.push v))
    obtain ⟨c2, hc2⟩ : ∃ c2, (s''.heap.update kS (Obj.mapSeq (·.push v))).get? kS = some (PyProof.Rows.seqObj "list" ((List.toArray kA).push v) c2) := ⟨_, PyProof.Rows.get?_update_seq gk2 (·.push v)⟩
    have hsz : kA.length ≤ j := by
      rw [← vk'.length, ← rk'.length, List.length_take]; omega
    have ek : ks.take (j + 1) = ks.take j ++ [kd] := by rw [List.take_add_one, hkd]; simp
    refine wpAny_bind (PyProof.Rows.listUpdate_at gk2 rfl ?_ (by rw [List.size_toArray]; omega) (by rw [Array.size_push, List.size_toArray]; omega))
    refine wpAny_pure ⟨rfl, H'', M'', kvs ++ [z], kA ++ [v], c2, rk.turn (t' := s''.toks) I2 nk2 fun c o hc q => (s1.2 c hc).trans q, e'.trans e2, rl2, ?_, vals_snoc vk' rz, ?_, (s1.2 a hka.symm).trans ga2, nk2, na2⟩
    · rw [ek]; exact (rk'.ext C.gk rl' e2).snoc rv2
    · rw [← List.push_toArray]; exact hc2
  case done =>
    rintro s' ⟨H', M', kvs, kA, e, I', e', rl', rk', vk', gk', ga', nk', na'⟩
    rw [Nat.zero_add, List.take_of_length_le (by omega)] at rk'
    obtain ⟨_, r2⟩ := each_of C.hK I' o1 rk' vk'
    have hA : kA.length = its.length := by rw [← vk'.length, ← rk'.length]; omega
    try dsimp only
    refine wpAny_bind (PyProof.Rows.listItems_at gk' rfl ?_)
    have r3 : PySem.W.EachIs (fun v d => ∃ as, Reads s'.heap v d as) kA (ks.map pd) := by
      exact each_pd r2
    have hS := PySem.W.SortsAt.data (prog := X.prog) (w := X.w) (A := X.A.in1.in1) (s := s') r3 o2 o3 fun d hd => by
      obtain ⟨c, hc, rfl⟩ := List.mem_map.mp hd
      have h3 := (canLay_dep 58 c (o1 c hc)).2
      have h4 := C.room.un
      show X.A.units + 1 + 1 + (pd c).depth < cLine
      omega
    refine PySem.W.keyH_end (κ := PySem.W.dataKind s'.heap (ks.map pd)) (h₁ := s'.heap.update kS fun o => { o with data := .freed }) (fun b o hb q => (get_freed q).2) (by
      cases q : (s'.heap.update kS fun o => { o with data := .freed }).get? kS with
      | none => rfl
      | some o => exact absurd rfl (get_freed q).1) gk' ga' hka (by simpa using hS) (by simpa using hA) hsl fun h3 tk3 c k3 n3 => ?_
    · have old : ∀ b o, b ≠ a → b ≠ kS → s'.heap.get? b = some o → h3.get? b = some o := fun b o h1 h2 q => k3 b o h1 ((Heap.get?_update_ne _ _ _ _ h2).trans q)
      have I3 : Inv X pins σ H' { s' with heap := h3, toks := tk3 } := I'.turnedL (ch := [a, kS]) (fun b o hb q => by simp at hb; exact old b o hb.1 hb.2 q) fun b hb => by
        simp at hb
        rcases hb with rfl | rfl
        · exact fa _ na'
        · exact fk _ nk'
      have ko : PySem.W.KeyedOut false ((ds.zip ks).map fun p => pd p.2) its (PySem.W.sortVals (PySem.W.dataKind s'.heap (ks.map pd)) false kA its) := by
        have ez : ((ds.zip ks).map fun p => pd p.2) = ks.map pd := by
          have := List.map_snd_zip (l₁ := ds) (l₂ := ks) (by omega)
          conv => rhs; rw [← this]
          rw [List.map_map]; rfl
        rw [ez]
        exact ⟨s'.heap, kA, o2, rfl, r3⟩
      obtain ⟨ys, y1, y2⟩ := keys_back (PySem.W.keyedOut_each (fun p => pd p.2) ko (each_keys kl (rv.ext C.gk rl e') ri))
      have hyl : ys.length ≤ sizeLine := by rw [← y2.length, List.length_map, List.length_mergeSort, List.length_zip, ← line_eq]; omega
      exact q M' H' ys _ (Inv.take (s := { s' with heap := h3, toks := tk3 }) (o := .lst ys) (h' := h3) (t' := tk3) I3 (fun b ob _ q => q) (fa _ na') ⟨hyl, _, c, y1, n3⟩) e' rl' na' y2
theorem sorted_key (C : Cok X G ck k Wx) {F : Fsem} {f : Addr} {fd : FuncData} {ps : List Str} (hb : Binds X.K fd ps []) (Fo : FnOk X.prog X.w X.K X.mg X.base (CX X.prog X.w) k f fd ps (lift G (pureOf F))) (I : Inv X pins σ H s) (rl : RL G h M H) {l : Addr} {ds ks : List D} {vs : List V} (hl : SqL X.K H l vs) (rv : RVs G M H ds vs)
    (hks : keysOf F ds = some ks) (hok : sortOk ks = true) (hlen : ds.length ≤ line) {Qv : VK} (q : ∀ (M' : Mp) (H' : Hp) (ys : List V) (p : Addr), Ext M H M' H' → RL G h M' H' → RVs G M' H' (sortByD ds ks) ys → H' p = none → H p = none → Qv (.ref p) (upd H' p (.lst ys))) :
    wpAny (model X.prog X.w) X.A (call (.builtin "sorted") [.ref l] [(Str.ofString "key", .ref f)]) (EP X pins σ Qv) X.xe s := by
  obtain ⟨kl, kF⟩ := keysOf_get h hks
  obtain ⟨o1, o2, o3⟩ := sortOk_some hok
  obtain ⟨its, ri, pl, hz⟩ := I.list hl
  have ll : its.length = ds.length := by rw [← ri.length, ← rv.length]
  have FR : FnR X.prog X.w X.K X.mg X.base (L2.CX X.prog X.w) k f (fun vs H Q E => lift G (pureOf F) (vs ++ []) H Q E) := FnOk.raw Fo hb .nil
  have hsl : its.length ≤ sizeLine := by rw [ll, ← line_eq]; exact hlen
  refine PySem.W.sorted_of_sort pl.isList hsl (PyProof.Rows.ksk_s1 _ _) (fun x => PyProof.Rows.ksk_l1 _ _) fun E' => ?_
  rw [PyProof.Rows.ksk_t1]
  unfold PyProof.Rows.ksk_tree
  have ho := PySem.W.copyHeap_at s.heap its
  obtain ⟨e1, ho1⟩ : ∃ e1, ((PySem.W.copyHeap s.heap its).update (s.heap.objs.size + 1) (Obj.mapSeq fun _ => (#[] : Array Value))).get? (s.heap.objs.size + 1) = some (PyProof.Rows.seqObj "list" #[] e1) := ⟨_, PyProof.Rows.get?_update_seq ho fun _ => #[]⟩
  refine wpAny_bind (PyProof.Rows.listItems_at ho rfl ?_)
  refine wpAny_bind (PyProof.Rows.listUpdate_at ho rfl ?_ (by rw [List.size_toArray]; exact hsl) (Nat.zero_le _))
  refine wpAny_bind (PyProof.Rows.seqEpoch_at ho1 rfl ?_)
  refine wpAny_bind (wpAny_newTuple ?_ (by show its.length ≤ _; exact hsl))
  refine wpAny_bind (wpAny_newList ?_ (Nat.zero_le _))
  refine wpAny_holding ?_
  have sz1 : (PySem.W.copyHeap s.heap its).objs.size = s.heap.objs.size + 2 := by
    unfold PySem.W.copyHeap
    rw [PyProof.Rows.size_push', Heap.size_update, PyProof.Rows.size_push']
  have sz2 : (((PySem.W.copyHeap s.heap its).update (s.heap.objs.size + 1) (Obj.mapSeq fun _ => (#[] : Array Value))).push (PyProof.Rows.seqObj "tuple" its.toArray 0)).objs.size = s.heap.objs.size + 3 := by
    rw [PyProof.Rows.size_push', Heap.size_update, sz1]
  have old : ∀ b o, s.heap.get? b = some o → (PySem.W.sortingHeap (PySem.W.copyHeap s.heap its) (s.heap.objs.size + 1) its).get? b = some o := fun b o q => PySem.W.sortingHeap_old (Nat.ne_of_lt (Nat.lt_succ_of_lt (Heap.lt_size q))) (PySem.W.copyHeap_old q)
  have I1 : Inv X pins σ H { s with heap := PySem.W.sortingHeap (PySem.W.copyHeap s.heap its) (s.heap.objs.size + 1) its } := I.kept (t' := s.toks) old
  have l1 : s.heap.objs.size ≤ s.heap.objs.size + 1 := Nat.le_add_right _ _
  have l3 : s.heap.objs.size ≤ s.heap.objs.size + 3 := Nat.le_add_right _ _
  show wpAny _ _ (PyProof.Rows.ksk_rest _ _ _ _ _ (.ref (((PySem.W.copyHeap s.heap its).update (s.heap.objs.size + 1) (Obj.mapSeq fun _ => (#[] : Array Value))).push (PyProof.Rows.seqObj "tuple" its.toArray 0)).objs.size)) _ _ { s with heap := PySem.W.sortingHeap (PySem.W.copyHeap s.heap its) (s.heap.objs.size + 1) its }
  have gS : (PySem.W.sortingHeap (PySem.W.copyHeap s.heap its) (s.heap.objs.size + 1) its).get? (s.heap.objs.size + 3) = some (PyProof.Rows.seqObj "list" #[] 0) := by
    rw [← sz2]; exact Heap.get?_push_size _ rfl
  have gA : (PySem.W.sortingHeap (PySem.W.copyHeap s.heap its) (s.heap.objs.size + 1) its).get? (s.heap.objs.size + 1) = some (PyProof.Rows.seqObj "list" #[] e1) := Heap.get?_push_of_some _ (Heap.get?_push_of_some _ ho1)
  rw [sz2]
  refine sort_fold C FR I1 (FbM.rec_new I l1) (FbM.rec_new I l3) (I.hok.fresh l1) (I.hok.fresh l3) (fun z => absurd (Nat.add_left_cancel z) (by decide)) gA gS (fun H' n => I.fpOk l1 n) (fun H' n => I.fpOk l3 n) rl rv ri kl kF hok hlen fun M' H' ys s3 I3 e' rl' n y => ⟨rfl, .ref (s.heap.objs.size + 1), upd H' (s.heap.objs.size + 1) (.lst ys), I3, rfl, q M' H' ys _ e' rl' y n (I.hok.fresh l1)⟩
end
def rSortK (G : Gx) (F : Fsem) (f : Addr) : List V → List V → Hp → VK → Prop := fun vs zs H Qv => ∃ d e v h M l ks, vs = [v] ∧ zs = [.ref f] ∧ RL G h M H ∧ RB G M H d v ∧ vw h d = some e ∧ e = .lst l ∧ keysOf F l = some ks ∧ sortOk ks = true ∧ l.length ≤ line ∧
  ∀ (M' : Mp) (H' : Hp) (ys : List V) (p : Addr), Ext M H M' H' → RL G h M' H' → RVs G M' H' (sortByD l ks) ys → H' p = none → H p = none → Qv (.ref p) (upd H' p (.lst ys))
def sortKB (f : Str) (x : Xo) (ck : Ck) (a : Expr) : Bool := match a with
  | .Call (.Name g _) [e] [⟨some kw, .Name y _, _⟩] _ => g == ("sorted" : Str) && kw == ("key" : Str) && y == f && globB ck g && globB ck f && x.ok ck e
  | _ => false
theorem sortKB_some {f : Str} {x : Xo} {ck : Ck} {a : Expr} (h : sortKB f x ck a = true) : ∃ p e q r t, a = .Call (.Name "sorted" p) [e] [⟨some "key", .Name f q, r⟩] t ∧ globB ck "sorted" = true ∧ globB ck f = true ∧ x.ok ck e = true := by
  unfold sortKB at h
  split at h
  · simp only [Bool.and_eq_true, beq_iff_eq] at h
    obtain ⟨⟨⟨⟨⟨rfl, rfl⟩, rfl⟩, h1⟩, h2⟩, h3⟩ := h
    exact ⟨_, _, _, _, _, rfl, h1, h2, h3⟩
  · cases h
def sortKR (F : Fsem) (h : Hh) : Option D → Res D
  | some (.lst l) => match keysOf F l with
    | some ks => if sortOk ks ∧ l.length ≤ line then .ok (.lst (sortByD l ks)) h else .no
    | none => .no
  | _ => .no
/-- sorted(x, key=f) -/
def Xn.sortK (f : Str) (F : Fsem) (x : Xo) : Xn where
  sem r h := (x.sem r h).bind fun d h1 => sortKR F h1 (vw h1 d)
  ok := sortKB f x
  need t := BtL t "sorted" ∧ FnL t f (pureOf F) ∧ x.need t
  star _ a h := by obtain ⟨p, e, q, r, t, rfl, _⟩ := sortKB_some h; rfl
  snd {X G ck k Wx a} C h n := by
    obtain ⟨p, e, q, r, t, rfl, hg1, hg2, h3⟩ := sortKB_some h
    obtain ⟨g1, g2, g3⟩ := gl_of C hg1
    obtain ⟨g4, g5, g6⟩ := gl_of C hg2
    have hs := x.star _ _ h3
    obtain ⟨n1, ⟨fa, fd, ps, hm, hk, hb, Fo⟩, n3⟩ := n
    dsimp only at hm hk hb Fo
    rw [C.hK] at hb Fo
    rw [C.hmg] at Fo hm
    have cr : CallRK X (.builtin "sorted") [Str.ofString "key"] (rSortK G F fa) := by
      intro pins s σ H vs zs us ws Qv I rv rz ⟨d, e, v, h, M, l, ks, ev, ez, rl, rd, ew, el, ek, ho, hl, kq⟩
      subst ev ez el
      obtain ⟨w, rfl, rw1⟩ := rz.one
      cases (show w = Value.ref fa from rw1)
      obtain ⟨p1, vs1, rfl, sq, rv1⟩ := (vw_ok rl rd ew).lst
      rw [Vals.ref1 rv]
      exact sorted_key C hb Fo I rl (SqL.of sq) rv1 ek ho hl kq
    refine PE.imp (pe_callBK cr g1 (by rw [← C.hmg]; exact n1) bt_sorted (pa_cons (x.snd C h3 n3) pa_nil (star_cons hs _)) (pk_cons (pe_glob g4 hm (show RelV (.ref fa) _ from rfl) g5) pk_nil) g3 g2 (by rw [star_cons hs]; rfl) (by rw [star_cons hs]; rfl)) fun σ H Qv ⟨r, hh, M, rl, re, k⟩ => ⟨r, hh, M, rl, re, one k fun d v h1 M1 H1 e1 r1 b1 k1 => ?_⟩
    unfold sortKR at k1
    split at k1
    · rename_i l ew
      split at k1
      · rename_i ks ek
        split at k1
        · rename_i hok
          refine ⟨d, _, v, h1, M1, l, ks, rfl, rfl, r1, b1, ew, rfl, ek, hok.1, hok.2, fun M' H' ys p e2 r2 y n1 n2 => ?_⟩
          exact k1 _ M' _ (e2.trans (Ext.loose n1)) (r2.poke C.gk (r2.free n1) (r2.freeF n1)) ⟨p, rfl, .lst upd_same (y.keep C.gk (Keep.new n1)), r2.free n1, r2.freeF n1, e1.trk _ n2⟩
        · exact k1.elim
      · exact k1.elim
    · exact k1.elim
end Pf

set_option Elab.async false
set_option linter.all false
/-! ## what the newer bundles compute -/
namespace Pf
open PySem L2
section
variable {r : Rho} {h : Hh}
@[simp] theorem mi_en {x : Xp} : (Ib.en x).sem r h = (x.sem r h).bind fun d h1 => ofO ((items d).map (enumD 0)) h1 := rfl
@[simp] theorem mi_zip2 {x y : Xp} : (Ib.zip2 x y).sem r h = (x.sem r h).bind fun d h1 => (y.sem r h1).bind fun e h2 => ofO (zip2E d e) h2 := rfl
@[simp] theorem mi_zip3 {x y z : Xp} : (Ib.zip3 x y z).sem r h = (x.sem r h).bind fun d h1 => (y.sem r h1).bind fun e h2 => (z.sem r h2).bind fun f h3 => ofO (zip3E d e f) h3 := rfl
@[simp] theorem m_tzip {x y : Xp} : (Xp.tzip x y).sem r h = (x.sem r h).bind fun d h1 => (y.sem r h1).bind fun e h2 => ofO (tzipE d e) h2 := rfl
@[simp] theorem m_lenO {c : Nat} {F : Fsem} {x : Xp} : (Xp.lenO c F x).sem r h = (x.sem r h).bind fun d h1 => match vw h1 d with
    | some d' => if isIns c d' then lenR (F [d] h1) else .no
    | none => .no := rfl
@[simp] theorem mn_add {x y : Xo} : (Xn.add x y).sem r h = (x.sem r h).bind fun d h1 => (y.sem r h1).bind fun e h2 => match vw h2 d, vw h2 e with
    | some (.lst l), some (.lst m) => if l.length + m.length ≤ line then .ok (.lst (l ++ m)) h2 else .no
    | _, _ => .no := rfl
@[simp] theorem mn_sortK {f : Str} {F : Fsem} {x : Xo} : (Xn.sortK f F x).sem r h = (x.sem r h).bind fun d h1 => sortKR F h1 (vw h1 d) := rfl
@[simp] theorem ms_tryN {a : List Si} : (Sm.tryN a).sem r h = noXo (semSs a r h) := rfl
end
end Pf

set_option Elab.async false
set_option linter.all false
set_option maxRecDepth 100000
/-! ## What texts lean on, as equations; classes and constants as the head tells them -/
namespace Pf
open PySem L2
theorem nd_Xp_v {tb : Tb} {i : Nat} : (Xp.v i).need tb = (True) := rfl
theorem nd_Xo_v {tb : Tb} {i : Nat} : (Xo.v i).need tb = (True) := rfl
theorem nd_Xp_c {tb : Tb} {d : D} : (Xp.c d).need tb = (True) := rfl
theorem nd_Xp_g {tb : Tb} {y : Str} {d : D} : (Xp.g y d).need tb = (GvL tb y d) := rfl
theorem nd_Xp_neg {tb : Tb} {x : Xp} : (Xp.neg x).need tb = ((x.need) tb) := rfl
theorem nd_Xp_bin {tb : Tb} {o : Operator} {x y : Xo} : (Xp.bin o x y).need tb = (x.need tb ∧ y.need tb) := rfl
theorem nd_Xp_cmp {tb : Tb} {o : CmpOp} {x y : Xo} : (Xp.cmp o x y).need tb = (x.need tb ∧ y.need tb) := rfl
theorem nd_Xt_cmp {tb : Tb} {o : CmpOp} {x y : Xo} : (Xt.cmp o x y).need tb = (x.need tb ∧ y.need tb) := rfl
theorem nd_Xt_e {tb : Tb} {x : Xo} : (Xt.e x).need tb = ((x.need) tb) := rfl
theorem nd_Xt_not {tb : Tb} {x : Xt} : (Xt.not x).need tb = ((x.need) tb) := rfl
theorem nd_Xt_and {tb : Tb} {x y : Xt} : (Xt.and x y).need tb = (x.need tb ∧ y.need tb) := rfl
theorem nd_Xt_or {tb : Tb} {x y : Xt} : (Xt.or x y).need tb = (x.need tb ∧ y.need tb) := rfl
theorem nd_Xp_and {tb : Tb} {x y : Xp} : (Xp.and x y).need tb = (x.need tb ∧ y.need tb) := rfl
theorem nd_Xp_or {tb : Tb} {x y : Xp} : (Xp.or x y).need tb = (x.need tb ∧ y.need tb) := rfl
theorem nd_Xp_not {tb : Tb} {x : Xp} : (Xp.not x).need tb = ((x.need) tb) := rfl
theorem nd_Xp_ite {tb : Tb} {t : Xt} {x y : Xp} : (Xp.ite t x y).need tb = (t.need tb ∧ x.need tb ∧ y.need tb) := rfl
theorem nd_Xp_chain {tb : Tb} {o p : CmpOp} {x y z : Xo} : (Xp.chain o p x y z).need tb = (x.need tb ∧ y.need tb ∧ z.need tb) := rfl
theorem nd_Xt_chain {tb : Tb} {o p : CmpOp} {x y z : Xo} : (Xt.chain o p x y z).need tb = (x.need tb ∧ y.need tb ∧ z.need tb) := rfl
theorem nd_Xp_ix {tb : Tb} {x y : Xo} : (Xp.ix x y).need tb = (x.need tb ∧ y.need tb) := rfl
theorem nd_Xp_sl {tb : Tb} {x : Xo} {lo hi : Option Xp} : (Xp.sl x lo hi).need tb = (x.need tb ∧ needO lo tb ∧ needO hi tb) := rfl
theorem nd_Xp_tup {tb : Tb} {xs : List Xp} : (Xp.tup xs).need tb = ((needA xs) tb) := rfl
theorem nd_Xp_fz {tb : Tb} {x : Xn} : (Xp.fz x).need tb = ((x.need) tb) := rfl
theorem nd_Xp_hp {tb : Tb} {x : Xn} : (Xp.hp x).need tb = ((x.need) tb) := rfl
theorem nd_Xn_lst {tb : Tb} {xs : List Xp} : (Xn.lst xs).need tb = ((needA xs) tb) := rfl
theorem nd_Xp_call {tb : Tb} {f : Str} {F : Fsem} {xs : List Xp} : (Xp.call f F xs).need tb = (FnL tb f F ∧ needA xs tb) := rfl
theorem nd_Xp_bi {tb : Tb} {f : Bi} {xs : List Xo} : (Xp.bi f xs).need tb = (BtL tb (biName f) ∧ needB xs tb) := rfl
theorem nd_Xn_bi {tb : Tb} {f : Bn} {xs : List Xo} : (Xn.bi f xs).need tb = (BtL tb (bnName f) ∧ needB xs tb) := rfl
theorem nd_Xp_isi {tb : Tb} {c : Kd} {x : Xo} : (Xp.isi c x).need tb = (BtL tb "isinstance" ∧ BtL tb (kdName c : Str) ∧ x.need tb) := rfl
theorem nd_Ib_seq {tb : Tb} {x : Xp} : (Ib.seq x).need tb = ((x.need) tb) := rfl
theorem nd_Ib_r1 {tb : Tb} {x : Xp} : (Ib.r1 x).need tb = (BtL tb "range" ∧ x.need tb) := rfl
theorem nd_Ib_r2 {tb : Tb} {x y : Xp} : (Ib.r2 x y).need tb = (BtL tb "range" ∧ x.need tb ∧ y.need tb) := rfl
theorem nd_Xn_lc {tb : Tb} {e : Xp} {t : Tg} {it : Ib} {ifs : Option Xt} {own : List (Str × Nat)} : (Xn.lc e t it ifs own).need tb = (e.need tb ∧ it.need tb ∧ needT ifs tb) := rfl
theorem nd_Sm_asg {tb : Tb} {t : Tg} {x : Xp} : (Sm.asg t x).need tb = ((x.need) tb) := rfl
theorem nd_Sm_asgO {tb : Tb} {i : Nat} {x : Xn} : (Sm.asgO i x).need tb = ((x.need) tb) := rfl
theorem nd_Sm_asgLc {tb : Tb} {i : Nat} {e : Xp} {t : Tg} {it : Ib} {ifs : Option Xt} {own : List (Str × Nat)} : (Sm.asgLc i e t it ifs own).need tb = (((Xn.lc e t it ifs own).need) tb) := rfl
theorem nd_Sm_asgOLc {tb : Tb} {i : Nat} {e : Xp} {t : Tg} {it : Ib} {ifs : Option Xt} {own : List (Str × Nat)} : (Sm.asgOLc i e t it ifs own).need tb = (((Xn.lc e t it ifs own).need) tb) := rfl
theorem nd_Sm_ex {tb : Tb} {x : Xp} : (Sm.ex x).need tb = ((x.need) tb) := rfl
theorem nd_Sm_ret {tb : Tb} {x : Xp} : (Sm.ret x).need tb = ((x.need) tb) := rfl
theorem nd_Sm_retN {tb : Tb}  : (Sm.retN).need tb = (True) := rfl
theorem nd_Sm_pass {tb : Tb}  : (Sm.pass).need tb = (True) := rfl
theorem nd_Sm_brk {tb : Tb}  : (Sm.brk).need tb = (True) := rfl
theorem nd_Sm_cont {tb : Tb}  : (Sm.cont).need tb = (True) := rfl
theorem nd_Sm_nev {tb : Tb}  : (Sm.nev).need tb = (True) := rfl
theorem nd_Sm_doc {tb : Tb}  : (Sm.doc).need tb = (True) := rfl
theorem nd_Sm_ife {tb : Tb} {t : Xt} {a b : List Si} : (Sm.ife t a b).need tb = (t.need tb ∧ needSs a tb ∧ needSs b tb) := rfl
theorem nd_Sm_for_ {tb : Tb} {t : Tg} {it : Ib} {body : List Si} : (Sm.for_ t it body).need tb = (it.need tb ∧ needSs body tb) := rfl
theorem nd_Sm_whl {tb : Tb} {n : Nat} {t : Xt} {body : List Si} : (Sm.whl n t body).need tb = (t.need tb ∧ needSs body tb) := rfl
theorem nd_Sm_par {tb : Tb} {is : List Nat} {xs : List Xa} : (Sm.par is xs).need tb = ((needX xs) tb) := rfl
theorem nd_Sm_app {tb : Tb} {j : Nat} {x : Xp} : (Sm.app j x).need tb = ((x.need) tb) := rfl
theorem nd_Xp_app {tb : Tb} {o x : Xp} : (Xp.app o x).need tb = (o.need tb ∧ x.need tb) := rfl
theorem nd_Sm_setO {tb : Tb} {j : Nat} {i e : Xp} : (Sm.setO j i e).need tb = (i.need tb ∧ e.need tb) := rfl
theorem nd_Sm_setH {tb : Tb} {o i e : Xp} : (Sm.setH o i e).need tb = (o.need tb ∧ i.need tb ∧ e.need tb) := rfl
theorem nd_Xp_at {tb : Tb} {c f : Nat} {x : Xo} : (Xp.at c f x).need tb = (FldL tb c f ∧ x.need tb) := rfl
theorem nd_Xp_prop {tb : Tb} {c : Nat} {f : Str} {F : Fsem} {x : Xp} : (Xp.prop c f F x).need tb = (PropL tb c f F ∧ x.need tb) := rfl
theorem nd_Xp_mc {tb : Tb} {c : Nat} {m : Str} {F : Fsem} {o : Xp} {xs : List Xp} : (Xp.mc c m F o xs).need tb = (MethL tb c m F ∧ o.need tb ∧ needA xs tb) := rfl
theorem nd_Sm_setA {tb : Tb} {c f : Nat} {o e : Xp} : (Sm.setA c f o e).need tb = (FldL tb c f ∧ o.need tb ∧ e.need tb) := rfl
theorem nd_Xp_mkF {tb : Tb} {c : Nat} {F : Fsem} {xs : List Xp} : (Xp.mkF c F xs).need tb = (MkL tb c F ∧ needA xs tb) := rfl
theorem nd_Xp_mkH {tb : Tb} {c : Nat} {F : Fsem} {xs : List Xp} : (Xp.mkH c F xs).need tb = (MkL tb c F ∧ needA xs tb) := rfl
theorem nd_Xp_mul {tb : Tb} {x y : Xo} : (Xp.mul x y).need tb = (x.need tb ∧ y.need tb) := rfl
theorem nd_Xn_rep {tb : Tb} {x : Xo} {y : Xo} : (Xn.rep x y).need tb = (x.need tb ∧ y.need tb) := rfl
theorem nd_Xp_tupS {tb : Tb} {xs : List Xs} : (Xp.tupS xs).need tb = ((needS xs) tb) := rfl
theorem nd_Xn_lstS {tb : Tb} {xs : List Xs} : (Xn.lstS xs).need tb = ((needS xs) tb) := rfl
theorem nd_Ib_en {tb : Tb} {x : Xp} : (Ib.en x).need tb = (BtL tb "enumerate" ∧ x.need tb) := rfl
theorem nd_Ib_zip2 {tb : Tb} {x y : Xp} : (Ib.zip2 x y).need tb = (BtL tb "zip" ∧ x.need tb ∧ y.need tb) := rfl
theorem nd_Ib_zip3 {tb : Tb} {x y z : Xp} : (Ib.zip3 x y z).need tb = (BtL tb "zip" ∧ x.need tb ∧ y.need tb ∧ z.need tb) := rfl
theorem nd_Sm_tryN {tb : Tb} {a : List Si} : (Sm.tryN a).need tb = (needSs a tb) := rfl
theorem nd_Xn_add {tb : Tb} {x : Xo} {y : Xo} : (Xn.add x y).need tb = (x.need tb ∧ y.need tb) := rfl
theorem nd_Xp_lenO {tb : Tb} {c : Nat} {F : Fsem} {x : Xp} : (Xp.lenO c F x).need tb = (BtL tb "len" ∧ LenL tb c F ∧ x.need tb) := rfl
theorem nd_Xp_tzip {tb : Tb} {x y : Xp} : (Xp.tzip x y).need tb = (BtL tb "tuple" ∧ BtL tb "zip" ∧ x.need tb ∧ y.need tb) := rfl
theorem nd_Xn_sortK {tb : Tb} {f : Str} {F : Fsem} {x : Xo} : (Xn.sortK f F x).need tb = (BtL tb "sorted" ∧ FnL tb f (pureOf F) ∧ x.need tb) := rfl
theorem nd_o {tb : Tb} {x : Xp} : (x.o).need tb = (x.need tb) := rfl
theorem nd_al {tb : Tb} {x : Xp} : Xa.need (.inl x) tb = x.need tb := rfl
theorem nd_ar {tb : Tb} {x : Xn} : Xa.need (.inr x) tb = x.need tb := rfl
/-- a member of a class that is a plain def -/
structure MemAt (K : PySem.W.Frag) (C : Addr) (m qual : Str) (st : Stmt) : Prop where
  ex : ∃ (g : Addr) (fd : FuncData), PySem.W.findIn K (.ref C) m = some (some (.ref g)) ∧ PySem.W.isFn K (.ref g) = true ∧ Fun K m qual st g fd
/-- a property of a class -/
structure PropAt (K : PySem.W.Frag) (C : Addr) (f qual : Str) (st : Stmt) : Prop where
  ex : ∃ (p g : Addr) (fd : FuncData), PropOf K C f p g ∧ Fun K f qual st g fd
section
variable {P : Program} {w : World} {G : Gx} {base : Heap} {k j : Nat} {f qual : Str} {st : Stmt} {C : Addr} {c : Nat} {N ps : List Str} {ss : List Si} {F : Fsem}
theorem Fun.bd {a : Addr} {fd : FuncData} (F : Fun G.K f qual st a fd) (hb : ∀ (kV doc pm : Value) (an : Option Addr) (cdv ct : Value) (us : List Value), us.length = ps.length → bindArgs (PySem.W.fnOf f qual (defArgs st) (defBody st) (defScope st) .none kV doc pm an cdv ct) ⟨us, []⟩ = pure (ps.zip us)) : Binds G.K fd ps [] := F.binds hb
theorem DefAt.fnm (gk : Gk G) (D : DefAt G.K G.mg f st) (hsc : FnScope N ps (defScope st)) (ok : okSs ss ⟨N, defScope st, false⟩ (defBody st) = true) (nd : needSs ss ⟨P, w, G, base, k⟩)
    (hb : ∀ (kV doc pm : Value) (an : Option Addr) (cdv ct : Value) (us : List Value), us.length = ps.length → bindArgs (PySem.W.fnOf f f (defArgs st) (defBody st) (defScope st) .none kV doc pm an cdv ct) ⟨us, []⟩ = pure (ps.zip us)) (hj : k + 3 ≤ j) : FnL ⟨P, w, G, base, j⟩ f (fnF N.length ps.length ss) :=
  FnL.mono (t := ⟨P, w, G, base, j⟩) (DefAt.fn gk D hsc ok nd hb) hj
theorem PropAt.fnm (gk : Gk G) (D : PropAt G.K C f qual st) (hc : G.mg (nmC c) = some (.ref C)) (sl : isSl c = true) (sc : SlX.SCls G.K C) (hsc : FnScope N ps (defScope st)) (ok : okSs ss ⟨N, defScope st, false⟩ (defBody st) = true) (nd : needSs ss ⟨P, w, G, base, k⟩)
    (hb : ∀ (kV doc pm : Value) (an : Option Addr) (cdv ct : Value) (us : List Value), us.length = ps.length → bindArgs (PySem.W.fnOf f qual (defArgs st) (defBody st) (defScope st) .none kV doc pm an cdv ct) ⟨us, []⟩ = pure (ps.zip us)) (hj : k + 3 ≤ j) : PropL ⟨P, w, G, base, j⟩ c f (pureOf (fnF N.length ps.length ss)) := by
  obtain ⟨p, g, fd, hp, Fn⟩ := D.ex
  exact ⟨C, p, g, fd, ps, ⟨hc, .inr ⟨sl, sc⟩⟩, hp, Fn.binds hb, ((fnok_L gk Fn hsc ok nd).mono hj).imp fun vs H Q E x => lift_pure gk x⟩
theorem MemAt.mkL (gk : Gk G) (D : MemAt G.K C "__init__" qual st) (hc : G.mg (nmC c) = some (.ref C)) (mk : PySem.W.makesIn G.K C = true) (kc : PySem.W.keepIn G.K (.ref C) = true) (hsc : FnScope N ps (defScope st)) (ok : okSs ss ⟨N, defScope st, false⟩ (defBody st) = true) (nd : needSs ss ⟨P, w, G, base, k⟩)
    (hb : ∀ (kV doc pm : Value) (an : Option Addr) (cdv ct : Value) (us : List Value), us.length = ps.length → bindArgs (PySem.W.fnOf "__init__" qual (defArgs st) (defBody st) (defScope st) .none kV doc pm an cdv ct) ⟨us, []⟩ = pure (ps.zip us)) (hj : k + 3 ≤ j) : MkL ⟨P, w, G, base, j⟩ c (fnF N.length ps.length ss) := by
  obtain ⟨g, fd, h1, h2, Fn⟩ := D.ex
  exact ⟨C, g, fd, ps, hc, ⟨mk, h1, h2, kc⟩, Fn.binds hb, (fnok_L gk Fn hsc ok nd).mono hj⟩
theorem MemAt.lenL (gk : Gk G) (D : MemAt G.K C "__len__" qual st) (hc : G.mg (nmC c) = some (.ref C)) (sl : isSl c = true) (hsc : FnScope N ps (defScope st)) (ok : okSs ss ⟨N, defScope st, false⟩ (defBody st) = true) (nd : needSs ss ⟨P, w, G, base, k⟩)
    (hb : ∀ (kV doc pm : Value) (an : Option Addr) (cdv ct : Value) (us : List Value), us.length = ps.length → bindArgs (PySem.W.fnOf "__len__" qual (defArgs st) (defBody st) (defScope st) .none kV doc pm an cdv ct) ⟨us, []⟩ = pure (ps.zip us)) (hj : k + 3 ≤ j) : LenL ⟨P, w, G, base, j⟩ c (pureOf (fnF N.length ps.length ss)) := by
  obtain ⟨g, fd, h1, h2, Fn⟩ := D.ex
  exact ⟨C, g, fd, ps, hc, sl, h1, h2, Fn.binds hb, ((fnok_L gk Fn hsc ok nd).mono hj).imp fun vs H Q E x => lift_pure gk x⟩
theorem fld_sl {t : Tb} {c f : Nat} {C p : Addr} {i : Nat} (hf : f < 33) (hc : t.G.mg (nmC c) = some (.ref C)) (sl : isSl c = true) (sc : SlX.SCls t.G.K C) (s1 : SlX.Slot1 t.G.K C (nmF f) p i) (hi : (slTab c).lookup f = some i) : FldL t c f := ⟨hf, C, hc, .inr ⟨sl, sc, p, i, s1, hi⟩⟩
end
/-- a tuple of the module -/
inductive RC : D → Value → Prop
  | int (i : Int) (t : Tok) : RC (.int i) (.int i t)
  | str (x : List Nat) (t : Tok) : RC (.str x) (.str (tS x) t)
inductive RCs : List D → List Value → Prop
  | nil : RCs [] []
  | cons {d : D} {u : Value} {l : List D} {us : List Value} : RC d u → RCs l us → RCs (d :: l) (u :: us)
theorem RCs.vals {G : Gx} : ∀ {l : List D} {us : List Value}, RCs l us → ∃ xs, Vals xs us ∧ ∀ M H, RVs G M H l xs
  | _, _, .nil => ⟨[], .nil, fun _ _ => .nil⟩
  | _, _, .cons h t => by
    obtain ⟨xs, h1, h2⟩ := RCs.vals (G := G) t
    cases h with
    | int i t => exact ⟨.int i :: xs, .cons ⟨t, rfl⟩ h1, fun M H => .cons (.int i) (h2 M H)⟩
    | str x t => exact ⟨.str (tS x) :: xs, .cons ⟨t, rfl⟩ h1, fun M H => .cons (.str x) (h2 M H)⟩
theorem gv_tup {t : Tb} {x : Str} {a : Addr} {l : List D} {od : Option Addr} {us : List Value} {n : Nat} {sl : Array (Option Value)} (h : t.G.mg x = some (.ref a)) (lk : t.G.K.lookup a = some ⟨.type "tuple", od, .seq us.toArray n, sl⟩) (hl : us.length ≤ 1000) (r : RCs l us) : GvL t x (.tup l) := by
  obtain ⟨xs, h1, h2⟩ := r.vals (G := t.G)
  exact ⟨_, .ref a, h, rfl, fun M H => .tup (.inr ⟨_, us.toArray, n, lk, rfl, rfl, by rw [sizeLine_eq]; simp; omega, by simpa using h1⟩) (h2 M H)⟩
def gx (K : PySem.W.Frag) (mg : Str → Option Value) : Gx := { K := K, mg := mg }
theorem gk_gx (K : PySem.W.Frag) (mg : Str → Option Value) : Gk (gx K mg) := ⟨fun _ _ _ _ h => h.elim, fun _ _ _ _ h => h.elim, fun _ _ _ _ h => h, fun _ _ _ _ h => h⟩
end Pf

set_option Elab.async false
set_option linter.all false
set_option maxRecDepth 100000
namespace Ev
open PySem L2 Pf
def N_is_number : List Str := ["value", "smallest", "largest"]
def P_is_number : List Str := ["value", "smallest", "largest"]
def ir_is_number : List Si :=
  [.s (Sm.ret (Xp.and (Xp.isi .int (Xo.v 0)) (Xp.and (Xp.not (Xp.isi .bool (Xo.v 0))) (Xp.chain .LtE .LtE (Xo.v 1) (Xo.v 0) (Xo.v 2)))))]
def F_is_number : Fsem := pureOf (fnF 3 3 ir_is_number)
def N_Plan___init__ : List Str := ["self", "on_back", "on_full", "on_restart", "words", "part", "word", "good"]
def P_Plan___init__ : List Str := ["self", "on_back", "on_full", "on_restart"]
def ir_Plan___init__ : List Si :=
  [.s (Sm.asg (.n 4) (Xp.tup [(Xp.v 1), (Xp.v 2), (Xp.v 3)])),
   .s (Sm.for_ (.tu [(.n 5), (.n 6), (.n 7)]) (Ib.zip3 (Xp.g "PARTS" (.tup [(.str [111, 110, 95, 98, 97, 99, 107]), (.str [111, 110, 95, 102, 117, 108, 108]), (.str [111, 110, 95, 114, 101, 115, 116, 97, 114, 116])])) (Xp.v 4) (Xp.tup [(Xp.g "BACK_WORDS" (.tup [(.str [116, 114, 117, 115, 116]), (.str [104, 111, 108, 100]), (.str [114, 101, 102, 117, 115, 101])])), (Xp.g "FULL_WORDS" (.tup [(.str [119, 114, 97, 112]), (.str [98, 111, 114, 114, 111, 119]), (.str [114, 101, 102, 117, 115, 101])])), (Xp.g "RESTART_WORDS" (.tup [(.str [102, 111, 114, 103, 101, 116]), (.str [115, 97, 118, 101, 100]), (.str [119, 97, 105, 116])]))]))
    [.s (Sm.ife (Xt.cmp .NotIn (Xo.v 6) (Xo.v 7))
      [.s (Sm.nev)]
      []), .kill [5, 6, 7]]),
   .s (Sm.setA 0 0 (Xp.v 0) (Xp.v 4))]
def F_Plan___init__ : Fsem := fnF 8 4 ir_Plan___init__
def N_Plan_on_back : List Str := ["self"]
def P_Plan_on_back : List Str := ["self"]
def ir_Plan_on_back : List Si :=
  [.s (Sm.ret (Xp.ix ((Xp.at 0 0 (Xo.v 0))).o ((Xp.c (.int 0))).o))]
def F_Plan_on_back : Fsem := pureOf (fnF 1 1 ir_Plan_on_back)
def N_Plan_on_full : List Str := ["self"]
def P_Plan_on_full : List Str := ["self"]
def ir_Plan_on_full : List Si :=
  [.s (Sm.ret (Xp.ix ((Xp.at 0 0 (Xo.v 0))).o ((Xp.c (.int 1))).o))]
def F_Plan_on_full : Fsem := pureOf (fnF 1 1 ir_Plan_on_full)
def N_Plan_on_restart : List Str := ["self"]
def P_Plan_on_restart : List Str := ["self"]
def ir_Plan_on_restart : List Si :=
  [.s (Sm.ret (Xp.ix ((Xp.at 0 0 (Xo.v 0))).o ((Xp.c (.int 2))).o))]
def F_Plan_on_restart : Fsem := pureOf (fnF 1 1 ir_Plan_on_restart)
def N_check_ranges : List Str := ["rows", "part", "value", "smallest", "largest"]
def P_check_ranges : List Str := ["rows"]
def ir_check_ranges : List Si :=
  [.s (Sm.for_ (.tu [(.n 1), (.n 2), (.n 3), (.n 4)]) (Ib.seq (Xp.v 0))
    [.s (Sm.ife (Xt.not (Xt.e ((Xp.call "is_number" F_is_number [(Xp.v 2), (Xp.v 3), (Xp.v 4)])).o))
      [.s (Sm.nev)]
      []), .kill [1, 2, 3, 4]])]
def F_check_ranges : Fsem := pureOf (fnF 5 1 ir_check_ranges)
def N_Setup___init__ : List Str := ["self", "plans", "marks", "top", "limit", "back", "ahead", "mark"]
def P_Setup___init__ : List Str := ["self", "plans", "marks", "top", "limit", "back", "ahead"]
def ir_Setup___init__ : List Si :=
  [.s (Sm.ife (Xt.not (Xt.chain .LtE .LtE ((Xp.c (.int 1))).o ((Xp.bi .len [(Xo.v 1)])).o ((Xp.g "MAX_MAKERS" (.int 2))).o))
    [.s (Sm.nev)]
    []),
   .s (Sm.ife (Xt.or (Xt.cmp .NotEq ((Xp.bi .len [(Xo.v 2)])).o ((Xp.bi .len [(Xo.v 1)])).o) (Xt.not (Xt.e ((Xp.bi .all [((Xp.fz (Xn.lc (Xp.call "is_number" F_is_number [(Xp.v 7), (Xp.c (.int 0)), (Xp.g "MAX_MARK" (.int 3))]) (.n 7) (Ib.seq (Xp.v 2)) none [("mark", 7)]))).o])).o)))
    [.s (Sm.nev)]
    []),
   .s (Sm.ex (Xp.call "check_ranges" F_check_ranges [(Xp.tup [(Xp.tup [(Xp.c (.str [116, 111, 112])), (Xp.v 3), (Xp.c (.int 1)), (Xp.c (.int 2))]), (Xp.tup [(Xp.c (.str [108, 105, 109, 105, 116])), (Xp.v 4), (Xp.c (.int 0)), (Xp.c (.int 1))]), (Xp.tup [(Xp.c (.str [98, 97, 99, 107])), (Xp.v 5), (Xp.c (.int 0)), (Xp.c (.int 2))]), (Xp.tup [(Xp.c (.str [97, 104, 101, 97, 100])), (Xp.v 6), (Xp.c (.int 1)), (Xp.c (.int 2))])])])),
   .s (Sm.setA 1 1 (Xp.v 0) (Xp.tzip (Xp.v 1) (Xp.v 2))),
   .s (Sm.setA 1 2 (Xp.v 0) (Xp.tup [(Xp.v 3), (Xp.v 4), (Xp.v 5), (Xp.v 6)]))]
def F_Setup___init__ : Fsem := fnF 8 7 ir_Setup___init__
def N_Setup_plans : List Str := ["self", "plan", "mark"]
def P_Setup_plans : List Str := ["self"]
def ir_Setup_plans : List Si :=
  [.s (Sm.ret (Xp.bi .tuple [((Xp.fz (Xn.lc (Xp.v 1) (.tu [(.n 1), (.n 2)]) (Ib.seq (Xp.at 1 1 (Xo.v 0))) none [("plan", 1), ("mark", 2)]))).o]))]
def F_Setup_plans : Fsem := pureOf (fnF 3 1 ir_Setup_plans)
def N_Setup_marks : List Str := ["self", "plan", "mark"]
def P_Setup_marks : List Str := ["self"]
def ir_Setup_marks : List Si :=
  [.s (Sm.ret (Xp.bi .tuple [((Xp.fz (Xn.lc (Xp.v 2) (.tu [(.n 1), (.n 2)]) (Ib.seq (Xp.at 1 1 (Xo.v 0))) none [("plan", 1), ("mark", 2)]))).o]))]
def F_Setup_marks : Fsem := pureOf (fnF 3 1 ir_Setup_marks)
def N_Setup_top : List Str := ["self"]
def P_Setup_top : List Str := ["self"]
def ir_Setup_top : List Si :=
  [.s (Sm.ret (Xp.ix ((Xp.at 1 2 (Xo.v 0))).o ((Xp.c (.int 0))).o))]
def F_Setup_top : Fsem := pureOf (fnF 1 1 ir_Setup_top)
def N_Setup_limit : List Str := ["self"]
def P_Setup_limit : List Str := ["self"]
def ir_Setup_limit : List Si :=
  [.s (Sm.ret (Xp.ix ((Xp.at 1 2 (Xo.v 0))).o ((Xp.c (.int 1))).o))]
def F_Setup_limit : Fsem := pureOf (fnF 1 1 ir_Setup_limit)
def N_Setup_back : List Str := ["self"]
def P_Setup_back : List Str := ["self"]
def ir_Setup_back : List Si :=
  [.s (Sm.ret (Xp.ix ((Xp.at 1 2 (Xo.v 0))).o ((Xp.c (.int 2))).o))]
def F_Setup_back : Fsem := pureOf (fnF 1 1 ir_Setup_back)
def N_Setup_ahead : List Str := ["self"]
def P_Setup_ahead : List Str := ["self"]
def ir_Setup_ahead : List Si :=
  [.s (Sm.ret (Xp.ix ((Xp.at 1 2 (Xo.v 0))).o ((Xp.c (.int 3))).o))]
def F_Setup_ahead : Fsem := pureOf (fnF 1 1 ir_Setup_ahead)
def N_Setup___len__ : List Str := ["self"]
def P_Setup___len__ : List Str := ["self"]
def ir_Setup___len__ : List Si :=
  [.s (Sm.ret (Xp.bi .len [((Xp.at 1 1 (Xo.v 0))).o]))]
def F_Setup___len__ : Fsem := pureOf (fnF 1 1 ir_Setup___len__)
def N_begin : List Str := ["setup"]
def P_begin : List Str := ["setup"]
def ir_begin : List Si :=
  [.s (Sm.ret (Xp.mul ((Xp.tup [(Xp.g "FRESH" (.tup [(.int 0), (.int (-1)), (.int 0), (.int (-1))]))])).o ((Xp.lenO 1 F_Setup___len__ (Xp.v 0))).o))]
def F_begin : Fsem := pureOf (fnF 1 1 ir_begin)
def N_is_single : List Str := ["setup", "maker", "value", "reading", "last", "counter", "saved"]
def P_is_single : List Str := ["setup", "maker", "value"]
def ir_is_single : List Si :=
  [.s (Sm.ife (Xt.or (Xt.not (Xt.e ((Xp.isi .tuple (Xo.v 2))).o)) (Xt.cmp .NotEq ((Xp.bi .len [(Xo.v 2)])).o ((Xp.c (.int 4))).o))
    [.s (Sm.ret (Xp.c (.bl false)))]
    []),
   .s (Sm.asg (.tu [(.n 3), (.n 4), (.n 5), (.n 6)]) (Xp.v 2)),
   .s (Sm.ife (Xt.or (Xt.not (Xt.e ((Xp.call "is_number" F_is_number [(Xp.v 3), (Xp.c (.int 0)), (Xp.prop 1 "top" F_Setup_top (Xp.v 0))])).o)) (Xt.not (Xt.e ((Xp.call "is_number" F_is_number [(Xp.v 4), (Xp.g "NONE" (.int (-1))), (Xp.prop 1 "top" F_Setup_top (Xp.v 0))])).o)))
    [.s (Sm.ret (Xp.c (.bl false)))]
    []),
   .s (Sm.ife (Xt.or (Xt.not (Xt.e ((Xp.call "is_number" F_is_number [(Xp.v 5), (Xp.c (.int 0)), (Xp.prop 1 "limit" F_Setup_limit (Xp.v 0))])).o)) (Xt.not (Xt.e ((Xp.call "is_number" F_is_number [(Xp.v 6), (Xp.g "NONE" (.int (-1))), (Xp.prop 1 "top" F_Setup_top (Xp.v 0))])).o)))
    [.s (Sm.ret (Xp.c (.bl false)))]
    []),
   .s (Sm.ife (Xt.and (Xt.cmp .Eq (Xo.v 4) ((Xp.g "NONE" (.int (-1)))).o) (Xt.cmp .Gt (Xo.v 5) ((Xp.c (.int 0))).o))
    [.s (Sm.ret (Xp.c (.bl false)))]
    []),
   .s (Sm.ret (Xp.or (Xp.cmp .Eq (Xo.v 6) ((Xp.g "NONE" (.int (-1)))).o) (Xp.cmp .NotEq ((Xp.prop 0 "on_restart" F_Plan_on_restart (Xp.ix ((Xp.prop 1 "plans" F_Setup_plans (Xp.v 0))).o (Xo.v 1)))).o ((Xp.c (.str [102, 111, 114, 103, 101, 116]))).o)))]
def F_is_single : Fsem := pureOf (fnF 7 3 ir_is_single)
def N_check_standing : List Str := ["setup", "standing", "is_good", "maker", "value"]
def P_check_standing : List Str := ["setup", "standing"]
def ir_check_standing : List Si :=
  [.s (Sm.asg (.n 2) (Xp.and (Xp.isi .tuple (Xo.v 1)) (Xp.cmp .Eq ((Xp.bi .len [(Xo.v 1)])).o ((Xp.lenO 1 F_Setup___len__ (Xp.v 0))).o))),
   .s (Sm.ife (Xt.or (Xt.not (Xt.e (Xo.v 2))) (Xt.not (Xt.e ((Xp.bi .all [((Xp.fz (Xn.lc (Xp.call "is_single" F_is_single [(Xp.v 0), (Xp.v 3), (Xp.v 4)]) (.tu [(.n 3), (.n 4)]) (Ib.en (Xp.v 1)) none [("maker", 3), ("value", 4)]))).o])).o)))
    [.s (Sm.nev)]
    [])]
def F_check_standing : Fsem := pureOf (fnF 5 2 ir_check_standing)
def N_next_number : List Str := ["setup", "maker", "single", "plan", "reading", "last", "counter", "saved"]
def P_next_number : List Str := ["setup", "maker", "single"]
def ir_next_number : List Si :=
  [.s (Sm.asg (.tu [(.n 4), (.n 5), (.n 6), (.n 7)]) (Xp.v 2)),
   .s (Sm.asg (.n 3) (Xp.ix ((Xp.prop 1 "plans" F_Setup_plans (Xp.v 0))).o (Xo.v 1))),
   .s (Sm.ife (Xt.cmp .Eq (Xo.v 5) ((Xp.g "NONE" (.int (-1)))).o)
    [.s (Sm.ret (Xp.ite (Xt.and (Xt.cmp .Eq ((Xp.prop 0 "on_restart" F_Plan_on_restart (Xp.v 3))).o ((Xp.c (.str [119, 97, 105, 116]))).o) (Xt.cmp .LtE (Xo.v 4) (Xo.v 7))) (Xp.c .non) (Xp.tup [(Xp.v 4), (Xp.c (.int 0))])))]
    []),
   .s (Sm.ife (Xt.or (Xt.cmp .Gt (Xo.v 4) (Xo.v 5)) (Xt.and (Xt.cmp .Lt (Xo.v 4) (Xo.v 5)) (Xt.cmp .Eq ((Xp.prop 0 "on_back" F_Plan_on_back (Xp.v 3))).o ((Xp.c (.str [116, 114, 117, 115, 116]))).o)))
    [.s (Sm.ret (Xp.tup [(Xp.v 4), (Xp.c (.int 0))]))]
    []),
   .s (Sm.ife (Xt.and (Xt.cmp .Lt (Xo.v 4) (Xo.v 5)) (Xt.cmp .Eq ((Xp.prop 0 "on_back" F_Plan_on_back (Xp.v 3))).o ((Xp.c (.str [114, 101, 102, 117, 115, 101]))).o))
    [.s (Sm.ret (Xp.c .non))]
    []),
   .s (Sm.ife (Xt.cmp .Lt (Xo.v 6) ((Xp.prop 1 "limit" F_Setup_limit (Xp.v 0))).o)
    [.s (Sm.ret (Xp.tup [(Xp.v 5), (Xp.bin .Add (Xo.v 6) ((Xp.c (.int 1))).o)]))]
    []),
   .s (Sm.ife (Xt.cmp .Eq ((Xp.prop 0 "on_full" F_Plan_on_full (Xp.v 3))).o ((Xp.c (.str [114, 101, 102, 117, 115, 101]))).o)
    [.s (Sm.ret (Xp.c .non))]
    []),
   .s (Sm.ife (Xt.cmp .Eq ((Xp.prop 0 "on_full" F_Plan_on_full (Xp.v 3))).o ((Xp.c (.str [119, 114, 97, 112]))).o)
    [.s (Sm.ret (Xp.tup [(Xp.v 5), (Xp.c (.int 0))]))]
    []),
   .s (Sm.ret (Xp.ite (Xt.cmp .Lt (Xo.v 5) ((Xp.prop 1 "top" F_Setup_top (Xp.v 0))).o) (Xp.tup [(Xp.bin .Add (Xo.v 5) ((Xp.c (.int 1))).o), (Xp.c (.int 0))]) (Xp.c .non)))]
def F_next_number : Fsem := pureOf (fnF 8 3 ir_next_number)
def N_giving : List Str := ["setup", "maker", "single", "pair", "saved"]
def P_giving : List Str := ["setup", "maker", "single"]
def ir_giving : List Si :=
  [.s (Sm.asg (.n 3) (Xp.call "next_number" F_next_number [(Xp.v 0), (Xp.v 1), (Xp.v 2)])),
   .s (Sm.ife (Xt.cmp .Is (Xo.v 3) ((Xp.c .non)).o)
    [.s (Sm.ret (Xp.tup [(Xp.v 2), (Xp.c .non)]))]
    []),
   .s (Sm.asg (.n 4) (Xp.ite (Xt.cmp .Eq ((Xp.prop 0 "on_restart" F_Plan_on_restart (Xp.ix ((Xp.prop 1 "plans" F_Setup_plans (Xp.v 0))).o (Xo.v 1)))).o ((Xp.c (.str [102, 111, 114, 103, 101, 116]))).o) (Xp.g "NONE" (.int (-1))) (Xp.ix (Xo.v 3) ((Xp.c (.int 0))).o))),
   .s (Sm.ret (Xp.tup [(Xp.tup [(Xp.ix (Xo.v 2) ((Xp.c (.int 0))).o), (Xp.ix (Xo.v 3) ((Xp.c (.int 0))).o), (Xp.ix (Xo.v 3) ((Xp.c (.int 1))).o), (Xp.v 4)]), (Xp.v 3)]))]
def F_giving : Fsem := pureOf (fnF 5 3 ir_giving)
def N_restarted : List Str := ["setup", "maker", "single", "reading", "last", "counter", "saved"]
def P_restarted : List Str := ["setup", "maker", "single"]
def ir_restarted : List Si :=
  [.s (Sm.asg (.tu [(.n 3), (.n 4), (.n 5), (.n 6)]) (Xp.v 2)),
   .s (Sm.ife (Xt.and (Xt.cmp .Eq ((Xp.prop 0 "on_restart" F_Plan_on_restart (Xp.ix ((Xp.prop 1 "plans" F_Setup_plans (Xp.v 0))).o (Xo.v 1)))).o ((Xp.c (.str [115, 97, 118, 101, 100]))).o) (Xt.cmp .NotEq (Xo.v 6) ((Xp.g "NONE" (.int (-1)))).o))
    [.s (Sm.ret (Xp.tup [(Xp.v 3), (Xp.v 6), (Xp.prop 1 "limit" F_Setup_limit (Xp.v 0)), (Xp.v 6)]))]
    []),
   .s (Sm.ret (Xp.tup [(Xp.v 3), (Xp.g "NONE" (.int (-1))), (Xp.c (.int 0)), (Xp.v 6)]))]
def F_restarted : Fsem := pureOf (fnF 7 3 ir_restarted)
def N_readings : List Str := ["setup", "single", "low", "high", "reading"]
def P_readings : List Str := ["setup", "single"]
def ir_readings : List Si :=
  [.s (Sm.par [2, 3] [.inl (Xp.bi .max2 [((Xp.c (.int 0))).o, ((Xp.bin .Sub ((Xp.ix (Xo.v 1) ((Xp.c (.int 0))).o)).o ((Xp.prop 1 "back" F_Setup_back (Xp.v 0))).o)).o]), .inl (Xp.bi .min2 [((Xp.prop 1 "top" F_Setup_top (Xp.v 0))).o, ((Xp.bin .Add ((Xp.ix (Xo.v 1) ((Xp.c (.int 0))).o)).o ((Xp.prop 1 "ahead" F_Setup_ahead (Xp.v 0))).o)).o])]),
   .s (Sm.ret (Xp.fz (Xn.lc (Xp.v 4) (.n 4) (Ib.r2 (Xp.v 2) (Xp.bin .Add (Xo.v 3) ((Xp.c (.int 1))).o)) (some (Xt.cmp .NotEq (Xo.v 4) ((Xp.ix (Xo.v 1) ((Xp.c (.int 0))).o)).o)) [("reading", 4)])))]
def F_readings : Fsem := pureOf (fnF 5 2 ir_readings)
def N_single_moves : List Str := ["setup", "maker", "single", "found", "reading", "later", "pair"]
def P_single_moves : List Str := ["setup", "maker", "single"]
def ir_single_moves : List Si :=
  [.s (Sm.asgO 3 (Xn.lst [])),
   .s (Sm.for_ (.n 4) (Ib.seq (Xp.call "readings" F_readings [(Xp.v 0), (Xp.v 2)]))
    [.s (Sm.app 3 (Xp.tup [(Xp.tup [(Xp.g "CLOCK" (.str [99, 108, 111, 99, 107])), (Xp.v 1), (Xp.v 4)]), (Xp.tupS [.inl (Xp.v 4), .inr ((Xp.sl (Xo.v 2) (some (Xp.c (.int 1))) none)).o]), (Xp.c .non)])), .kill [4]]),
   .s (Sm.asg (.tu [(.n 5), (.n 6)]) (Xp.call "giving" F_giving [(Xp.v 0), (Xp.v 1), (Xp.v 2)])),
   .s (Sm.app 3 (Xp.tup [(Xp.tup [(Xp.g "GIVE" (.str [103, 105, 118, 101])), (Xp.v 1)]), (Xp.v 5), (Xp.v 6)])),
   .s (Sm.app 3 (Xp.tup [(Xp.tup [(Xp.g "RESTART" (.str [114, 101, 115, 116, 97, 114, 116])), (Xp.v 1)]), (Xp.call "restarted" F_restarted [(Xp.v 0), (Xp.v 1), (Xp.v 2)]), (Xp.c .non)])),
   .frz 3,
   .s (Sm.ret (Xp.v 3))]
def F_single_moves : Fsem := pureOf (fnF 7 3 ir_single_moves)
def N_first_of : List Str := ["row"]
def P_first_of : List Str := ["row"]
def ir_first_of : List Si :=
  [.s (Sm.ret (Xp.ix (Xo.v 0) ((Xp.c (.int 0))).o))]
def F_first_of : Fsem := pureOf (fnF 1 1 ir_first_of)
def N_all_moves : List Str := ["setup", "standing", "found", "maker", "single", "event", "later", "pair", "number"]
def P_all_moves : List Str := ["setup", "standing"]
def ir_all_moves : List Si :=
  [.s (Sm.asgO 2 (Xn.lst [])),
   .s (Sm.for_ (.tu [(.n 3), (.n 4)]) (Ib.en (Xp.v 1))
    [.s (Sm.for_ (.tu [(.n 5), (.n 6), (.n 7)]) (Ib.seq (Xp.call "single_moves" F_single_moves [(Xp.v 0), (Xp.v 3), (Xp.v 4)]))
      [.s (Sm.asg (.n 8) (Xp.ite (Xt.cmp .Is (Xo.v 7) ((Xp.c .non)).o) (Xp.c .non) (Xp.tup [(Xp.ix (Xo.v 7) ((Xp.c (.int 0))).o), (Xp.ix ((Xp.prop 1 "marks" F_Setup_marks (Xp.v 0))).o (Xo.v 3)), (Xp.ix (Xo.v 7) ((Xp.c (.int 1))).o)]))),
       .s (Sm.app 2 (Xp.tup [(Xp.v 5), (Xp.tupS [.inr ((Xp.sl (Xo.v 1) none (some (Xp.v 3)))).o, .inl (Xp.v 6), .inr ((Xp.sl (Xo.v 1) (some (Xp.bin .Add (Xo.v 3) ((Xp.c (.int 1))).o)) none)).o]), (Xp.v 8)])), .kill [5, 6, 7, 8]]), .kill [3, 4, 5, 6, 7, 8]]),
   .s (Sm.ret (Xp.fz (Xn.sortK "first_of" (fnF 1 1 ir_first_of) (Xo.v 2))))]
def F_all_moves : Fsem := pureOf (fnF 9 2 ir_all_moves)
def N_is_word : List Str := ["event"]
def P_is_word : List Str := ["event"]
def ir_is_word : List Si :=
  [.s (Sm.ife (Xt.or (Xt.not (Xt.e ((Xp.isi .tuple (Xo.v 0))).o)) (Xt.cmp .Lt ((Xp.bi .len [(Xo.v 0)])).o ((Xp.c (.int 2))).o))
    [.s (Sm.ret (Xp.c (.bl false)))]
    []),
   .s (Sm.ret (Xp.and (Xp.cmp .Eq ((Xp.bi .len [(Xo.v 0)])).o ((Xp.ite (Xt.cmp .Eq ((Xp.ix (Xo.v 0) ((Xp.c (.int 0))).o)).o ((Xp.g "CLOCK" (.str [99, 108, 111, 99, 107]))).o) (Xp.c (.int 3)) (Xp.c (.int 2)))).o) (Xp.cmp .In ((Xp.ix (Xo.v 0) ((Xp.c (.int 0))).o)).o ((Xp.tup [(Xp.g "CLOCK" (.str [99, 108, 111, 99, 107])), (Xp.g "GIVE" (.str [103, 105, 118, 101])), (Xp.g "RESTART" (.str [114, 101, 115, 116, 97, 114, 116]))])).o)))]
def F_is_word : Fsem := pureOf (fnF 1 1 ir_is_word)
def N_move : List Str := ["setup", "standing", "event", "one", "later", "number"]
def P_move : List Str := ["setup", "standing", "event"]
def ir_move : List Si :=
  [.s (Sm.ife (Xt.not (Xt.e ((Xp.call "is_word" F_is_word [(Xp.v 2)])).o))
    [.s (Sm.nev)]
    []),
   .s (Sm.ife (Xt.not (Xt.e ((Xp.call "is_number" F_is_number [(Xp.ix (Xo.v 2) ((Xp.c (.int 1))).o), (Xp.c (.int 0)), (Xp.bin .Sub ((Xp.lenO 1 F_Setup___len__ (Xp.v 0))).o ((Xp.c (.int 1))).o)])).o))
    [.s (Sm.nev)]
    []),
   .s (Sm.ife (Xt.and (Xt.cmp .Eq ((Xp.ix (Xo.v 2) ((Xp.c (.int 0))).o)).o ((Xp.g "CLOCK" (.str [99, 108, 111, 99, 107]))).o) (Xt.not (Xt.e ((Xp.call "is_number" F_is_number [(Xp.ix (Xo.v 2) ((Xp.c (.int 2))).o), (Xp.c (.int 0)), (Xp.prop 1 "top" F_Setup_top (Xp.v 0))])).o)))
    [.s (Sm.nev)]
    []),
   .s (Sm.for_ (.tu [(.n 3), (.n 4), (.n 5)]) (Ib.seq (Xp.call "all_moves" F_all_moves [(Xp.v 0), (Xp.v 1)]))
    [.s (Sm.ife (Xt.cmp .Eq (Xo.v 3) (Xo.v 2))
      [.s (Sm.ret (Xp.tup [(Xp.v 4), (Xp.v 5)]))]
      []), .kill [3, 4, 5]]),
   .s (Sm.nev)]
def F_move : Fsem := pureOf (fnF 6 3 ir_move)
def N_after : List Str := ["setup", "standing", "event"]
def P_after : List Str := ["setup", "standing", "event"]
def ir_after : List Si :=
  [.s (Sm.ex (Xp.call "check_standing" F_check_standing [(Xp.v 0), (Xp.v 1)])),
   .s (Sm.ret (Xp.call "move" F_move [(Xp.v 0), (Xp.v 1), (Xp.v 2)]))]
def F_after : Fsem := pureOf (fnF 3 3 ir_after)
def N_run : List Str := ["setup", "events", "standing", "told", "index", "event", "error", "number"]
def P_run : List Str := ["setup", "events"]
def ir_run : List Si :=
  [.s (Sm.par [2, 3] [.inl (Xp.call "begin" F_begin [(Xp.v 0)]), .inr (Xn.lst [])]),
   .s (Sm.for_ (.tu [(.n 4), (.n 5)]) (Ib.en (Xp.v 1))
    [.s (Sm.tryN
      [.s (Sm.asg (.tu [(.n 2), (.n 7)]) (Xp.call "move" F_move [(Xp.v 0), (Xp.v 2), (Xp.v 5)]))]),
     .s (Sm.ife (Xt.cmp .Eq ((Xp.ix (Xo.v 5) ((Xp.c (.int 0))).o)).o ((Xp.g "GIVE" (.str [103, 105, 118, 101]))).o)
      [.s (Sm.app 3 (Xp.v 7))]
      []), .kill [4, 5, 7]]),
   .frz 3,
   .s (Sm.ret (Xp.tup [(Xp.v 2), (Xp.v 3)]))]
def F_run : Fsem := pureOf (fnF 8 2 ir_run)
end Ev

set_option Elab.async false
set_option linter.all false
set_option maxRecDepth 100000
namespace Ev
open PySem L2 Pf
def N__law_taken : List Str := ["_law_row", "_law_many", "_law_cell", "_law_found"]
def P__law_taken : List Str := ["_law_row", "_law_many"]
def ir__law_taken : List Si :=
  [.s (Sm.ife (Xt.cmp .Gt ((Xp.ix (Xo.v 0) ((Xp.c (.int 3))).o)).o ((Xp.c (.int 0))).o)
    [.s (Sm.asg (.n 3) (Xp.bin .Mod ((Xp.bi .int [((Xp.ix (Xo.v 0) ((Xp.c (.int 3))).o)).o])).o (Xo.v 1))),
     .s (Sm.setH (Xp.v 0) (Xp.c (.int 3)) (Xp.bin .FloorDiv ((Xp.ix (Xo.v 0) ((Xp.c (.int 3))).o)).o (Xo.v 1))),
     .s (Sm.ret (Xp.v 3))]
    []),
   .kill [3],
   .s (Sm.setH (Xp.v 0) (Xp.c (.int 1)) (Xp.bin .Add ((Xp.ix (Xo.v 0) ((Xp.c (.int 1))).o)).o ((Xp.c (.int 1))).o)),
   .s (Sm.ife (Xt.cmp .Gt ((Xp.ix (Xo.v 0) ((Xp.c (.int 1))).o)).o ((Xp.bi .len [((Xp.ix (Xo.v 0) ((Xp.c (.int 0))).o)).o])).o)
    [.s (Sm.setH (Xp.v 0) (Xp.c (.int 2)) (Xp.bin .Mod ((Xp.bi .int [((Xp.bin .Add ((Xp.bin .Mult ((Xp.ix (Xo.v 0) ((Xp.c (.int 2))).o)).o ((Xp.c (.int 48271))).o)).o ((Xp.c (.int 11))).o)).o])).o ((Xp.c (.int 2147483647))).o)),
     .s (Sm.ret (Xp.bin .Mod ((Xp.bi .int [((Xp.bin .FloorDiv ((Xp.ix (Xo.v 0) ((Xp.c (.int 2))).o)).o ((Xp.c (.int 7))).o)).o])).o (Xo.v 1)))]
    []),
   .s (Sm.asg (.n 2) (Xp.ix ((Xp.ix (Xo.v 0) ((Xp.c (.int 0))).o)).o ((Xp.bin .Sub ((Xp.ix (Xo.v 0) ((Xp.c (.int 1))).o)).o ((Xp.c (.int 1))).o)).o)),
   .s (Sm.setH (Xp.v 0) (Xp.c (.int 2)) (Xp.bin .Mod ((Xp.bi .int [((Xp.bin .Add ((Xp.bin .Add ((Xp.bin .Mult ((Xp.ix (Xo.v 0) ((Xp.c (.int 2))).o)).o ((Xp.c (.int 48271))).o)).o (Xo.v 2))).o ((Xp.c (.int 11))).o)).o])).o ((Xp.c (.int 2147483647))).o)),
   .s (Sm.setH (Xp.v 0) (Xp.c (.int 3)) (Xp.ite (Xt.cmp .GtE (Xo.v 2) ((Xp.bin .Pow ((Xp.c (.int 10))).o ((Xp.c (.int 18))).o)).o) (Xp.bin .FloorDiv (Xo.v 2) (Xo.v 1)) (Xp.c (.int 0)))),
   .s (Sm.ret (Xp.bin .Mod ((Xp.bi .int [(Xo.v 2)])).o (Xo.v 1)))]
def F__law_taken : Fsem := rowOf (fnF 4 2 ir__law_taken)
def N__law_pick : List Str := ["_law_row", "_law_some"]
def P__law_pick : List Str := ["_law_row", "_law_some"]
def ir__law_pick : List Si :=
  [.s (Sm.ret (Xp.ix (Xo.v 1) ((Xp.call "_law_taken" F__law_taken [(Xp.v 0), (Xp.bi .len [(Xo.v 1)])])).o))]
def F__law_pick : Fsem := rowOf (fnF 2 2 ir__law_pick)
def N__law_words : List Str := ["_law_row", "_law_one"]
def P__law_words : List Str := ["_law_row"]
def ir__law_words : List Si :=
  [.s (Sm.asg (.n 1) (Xp.call "_law_pick" F__law_pick [(Xp.v 0), (Xp.fz (Xn.lst [(Xp.c (.str [104, 111, 108, 100])), (Xp.c (.str [114, 101, 102, 117, 115, 101])), (Xp.c (.str [116, 114, 117, 115, 116]))]))])),
   .s (Sm.ret (Xp.tup [(Xp.v 1), (Xp.call "_law_pick" F__law_pick [(Xp.v 0), (Xp.fz (Xn.lst [(Xp.c (.str [98, 111, 114, 114, 111, 119])), (Xp.c (.str [114, 101, 102, 117, 115, 101])), (Xp.c (.str [119, 114, 97, 112]))]))]), (Xp.call "_law_pick" F__law_pick [(Xp.v 0), (Xp.fz (Xn.lst [(Xp.c (.str [102, 111, 114, 103, 101, 116])), (Xp.c (.str [115, 97, 118, 101, 100])), (Xp.c (.str [119, 97, 105, 116]))]))])]))]
def F__law_words : Fsem := rowOf (fnF 2 1 ir__law_words)
def N__law_scheme : List Str := ["_law_row", "_law_makers", "_law_many", "_law_plans", "_law_marks", "_law_top", "_law_k"]
def P__law_scheme : List Str := ["_law_row", "_law_makers"]
def ir__law_scheme : List Si :=
  [.s (Sm.asg (.n 2) (Xp.bin .Add ((Xp.c (.int 1))).o ((Xp.call "_law_taken" F__law_taken [(Xp.v 0), (Xp.v 1)])).o)),
   .s (Sm.asg (.n 3) (Xp.bi .tuple [((Xp.fz (Xn.lc (Xp.call "_law_words" F__law_words [(Xp.v 0)]) (.n 6) (Ib.r1 (Xp.v 2)) none [("_law_k", 6)]))).o])),
   .s (Sm.asg (.n 4) (Xp.bi .tuple [((Xp.fz (Xn.lc (Xp.call "_law_pick" F__law_pick [(Xp.v 0), (Xp.fz (Xn.lst [(Xp.c (.int 0)), (Xp.c (.int 0)), (Xp.c (.int 3))]))]) (.n 6) (Ib.r1 (Xp.v 2)) none [("_law_k", 6)]))).o])),
   .s (Sm.asg (.n 5) (Xp.ite (Xt.cmp .Eq (Xo.v 2) ((Xp.c (.int 1))).o) (Xp.bin .Add ((Xp.c (.int 1))).o ((Xp.call "_law_taken" F__law_taken [(Xp.v 0), (Xp.c (.int 2))])).o) (Xp.c (.int 1)))),
   .s (Sm.ret (Xp.tup [(Xp.v 3), (Xp.v 4), (Xp.v 5), (Xp.ite (Xt.cmp .Eq (Xo.v 2) ((Xp.c (.int 1))).o) (Xp.call "_law_taken" F__law_taken [(Xp.v 0), (Xp.c (.int 2))]) (Xp.c (.int 0))), (Xp.call "_law_taken" F__law_taken [(Xp.v 0), (Xp.c (.int 3))]), (Xp.bin .Add ((Xp.c (.int 1))).o ((Xp.call "_law_taken" F__law_taken [(Xp.v 0), (Xp.c (.int 2))])).o)]))]
def F__law_scheme : Fsem := rowOf (fnF 7 2 ir__law_scheme)
def N__law_setup : List Str := ["_law_s", "_law_words_here"]
def P__law_setup : List Str := ["_law_s"]
def ir__law_setup : List Si :=
  [.s (Sm.ret (Xp.mkF 1 F_Setup___init__ [(Xp.bi .tuple [((Xp.fz (Xn.lc (Xp.mkF 0 F_Plan___init__ [(Xp.ix (Xo.v 1) ((Xp.c (.int 0))).o), (Xp.ix (Xo.v 1) ((Xp.c (.int 1))).o), (Xp.ix (Xo.v 1) ((Xp.c (.int 2))).o)]) (.n 1) (Ib.seq (Xp.ix (Xo.v 0) ((Xp.c (.int 0))).o)) none [("_law_words_here", 1)]))).o]), (Xp.ix (Xo.v 0) ((Xp.c (.int 1))).o), (Xp.ix (Xo.v 0) ((Xp.c (.int 2))).o), (Xp.ix (Xo.v 0) ((Xp.c (.int 3))).o), (Xp.ix (Xo.v 0) ((Xp.c (.int 4))).o), (Xp.ix (Xo.v 0) ((Xp.c (.int 5))).o)]))]
def F__law_setup : Fsem := pureOf (fnF 2 1 ir__law_setup)
def N__law_give : List Str := ["_law_s", "_law_maker", "_law_part", "_law_shown", "_law_reading", "_law_last", "_law_counter", "_law_saved", "_law_words_here", "_law_pair"]
def P__law_give : List Str := ["_law_s", "_law_maker", "_law_part"]
def ir__law_give : List Si :=
  [.s (Sm.asg (.tu [(.n 4), (.n 5), (.n 6), (.n 7)]) (Xp.v 2)),
   .s (Sm.par [8, 9] [.inl (Xp.ix ((Xp.ix (Xo.v 0) ((Xp.c (.int 0))).o)).o (Xo.v 1)), .inl (Xp.c .non)]),
   .s (Sm.asg (.n 3) (Xp.ite (Xt.cmp .Eq ((Xp.ix (Xo.v 8) ((Xp.c (.int 0))).o)).o ((Xp.c (.str [104, 111, 108, 100]))).o) (Xp.bi .max2 [(Xo.v 4), (Xo.v 5)]) (Xp.v 4))),
   .s (Sm.ife (Xt.cmp .Lt (Xo.v 5) ((Xp.c (.int 0))).o)
    [.s (Sm.asg (.n 9) (Xp.ite (Xt.or (Xt.cmp .NotEq ((Xp.ix (Xo.v 8) ((Xp.c (.int 2))).o)).o ((Xp.c (.str [119, 97, 105, 116]))).o) (Xt.cmp .Gt (Xo.v 4) (Xo.v 7))) (Xp.tup [(Xp.v 4), (Xp.c (.int 0))]) (Xp.c .non)))]
    [.s (Sm.ife (Xt.or (Xt.cmp .Gt (Xo.v 4) (Xo.v 5)) (Xt.and (Xt.cmp .Lt (Xo.v 4) (Xo.v 5)) (Xt.cmp .Eq ((Xp.ix (Xo.v 8) ((Xp.c (.int 0))).o)).o ((Xp.c (.str [116, 114, 117, 115, 116]))).o)))
      [.s (Sm.asg (.n 9) (Xp.tup [(Xp.v 4), (Xp.c (.int 0))]))]
      [.s (Sm.ife (Xt.and (Xt.cmp .Eq (Xo.v 3) (Xo.v 5)) (Xt.cmp .Lt (Xo.v 6) ((Xp.ix (Xo.v 0) ((Xp.c (.int 3))).o)).o))
        [.s (Sm.asg (.n 9) (Xp.tup [(Xp.v 5), (Xp.bin .Add (Xo.v 6) ((Xp.c (.int 1))).o)]))]
        [.s (Sm.ife (Xt.and (Xt.cmp .Eq (Xo.v 3) (Xo.v 5)) (Xt.cmp .Eq ((Xp.ix (Xo.v 8) ((Xp.c (.int 1))).o)).o ((Xp.c (.str [119, 114, 97, 112]))).o))
          [.s (Sm.asg (.n 9) (Xp.tup [(Xp.v 5), (Xp.c (.int 0))]))]
          [.s (Sm.ife (Xt.and (Xt.cmp .Eq (Xo.v 3) (Xo.v 5)) (Xt.and (Xt.cmp .Eq ((Xp.ix (Xo.v 8) ((Xp.c (.int 1))).o)).o ((Xp.c (.str [98, 111, 114, 114, 111, 119]))).o) (Xt.cmp .Lt (Xo.v 5) ((Xp.ix (Xo.v 0) ((Xp.c (.int 2))).o)).o)))
            [.s (Sm.asg (.n 9) (Xp.tup [(Xp.bin .Add (Xo.v 5) ((Xp.c (.int 1))).o), (Xp.c (.int 0))]))]
            [])])])])]),
   .s (Sm.ife (Xt.cmp .Is (Xo.v 9) ((Xp.c .non)).o)
    [.s (Sm.ret (Xp.tup [(Xp.v 2), (Xp.c .non)]))]
    []),
   .s (Sm.ret (Xp.tup [(Xp.tup [(Xp.v 4), (Xp.ix (Xo.v 9) ((Xp.c (.int 0))).o), (Xp.ix (Xo.v 9) ((Xp.c (.int 1))).o), (Xp.ite (Xt.cmp .Eq ((Xp.ix (Xo.v 8) ((Xp.c (.int 2))).o)).o ((Xp.c (.str [102, 111, 114, 103, 101, 116]))).o) (Xp.neg (Xp.c (.int 1))) (Xp.ix (Xo.v 9) ((Xp.c (.int 0))).o))]), (Xp.v 9)]))]
def F__law_give : Fsem := pureOf (fnF 10 3 ir__law_give)
def N__law_step : List Str := ["_law_s", "_law_standing", "_law_event", "_law_part", "_law_k", "_law_number", "_law_is_saved", "_law_pair"]
def P__law_step : List Str := ["_law_s", "_law_standing", "_law_event"]
def ir__law_step : List Si :=
  [.s (Sm.par [4, 5] [.inl (Xp.ix (Xo.v 2) ((Xp.c (.int 1))).o), .inl (Xp.c .non)]),
   .s (Sm.asg (.n 3) (Xp.ix (Xo.v 1) (Xo.v 4))),
   .s (Sm.ife (Xt.cmp .Eq ((Xp.ix (Xo.v 2) ((Xp.c (.int 0))).o)).o ((Xp.c (.str [99, 108, 111, 99, 107]))).o)
    [.s (Sm.asg (.n 3) (Xp.bin .Add ((Xp.tup [(Xp.ix (Xo.v 2) ((Xp.c (.int 2))).o)])).o ((Xp.sl (Xo.v 3) (some (Xp.c (.int 1))) none)).o))]
    [.s (Sm.ife (Xt.cmp .Eq ((Xp.ix (Xo.v 2) ((Xp.c (.int 0))).o)).o ((Xp.c (.str [114, 101, 115, 116, 97, 114, 116]))).o)
      [.s (Sm.asg (.n 6) (Xp.and (Xp.cmp .Eq ((Xp.ix ((Xp.ix ((Xp.ix (Xo.v 0) ((Xp.c (.int 0))).o)).o (Xo.v 4))).o ((Xp.c (.int 2))).o)).o ((Xp.c (.str [115, 97, 118, 101, 100]))).o) (Xp.cmp .GtE ((Xp.ix (Xo.v 3) ((Xp.c (.int 3))).o)).o ((Xp.c (.int 0))).o))),
       .s (Sm.asg (.n 3) (Xp.ite (Xt.e (Xo.v 6)) (Xp.tup [(Xp.ix (Xo.v 3) ((Xp.c (.int 0))).o), (Xp.ix (Xo.v 3) ((Xp.c (.int 3))).o), (Xp.ix (Xo.v 0) ((Xp.c (.int 3))).o), (Xp.ix (Xo.v 3) ((Xp.c (.int 3))).o)]) (Xp.tup [(Xp.ix (Xo.v 3) ((Xp.c (.int 0))).o), (Xp.neg (Xp.c (.int 1))), (Xp.c (.int 0)), (Xp.ix (Xo.v 3) ((Xp.c (.int 3))).o)])))]
      [.s (Sm.asg (.tu [(.n 3), (.n 7)]) (Xp.call "_law_give" F__law_give [(Xp.v 0), (Xp.v 4), (Xp.v 3)])),
       .s (Sm.asg (.n 5) (Xp.ite (Xt.cmp .Is (Xo.v 7) ((Xp.c .non)).o) (Xp.c .non) (Xp.tup [(Xp.ix (Xo.v 7) ((Xp.c (.int 0))).o), (Xp.ix ((Xp.ix (Xo.v 0) ((Xp.c (.int 1))).o)).o (Xo.v 4)), (Xp.ix (Xo.v 7) ((Xp.c (.int 1))).o)])))]),
     .kill [6, 7]]),
   .kill [6, 7],
   .s (Sm.ret (Xp.tup [(Xp.bin .Add ((Xp.bin .Add ((Xp.sl (Xo.v 1) none (some (Xp.v 4)))).o ((Xp.tup [(Xp.v 3)])).o)).o ((Xp.sl (Xo.v 1) (some (Xp.bin .Add (Xo.v 4) ((Xp.c (.int 1))).o)) none)).o), (Xp.v 5)]))]
def F__law_step : Fsem := pureOf (fnF 8 3 ir__law_step)
def N__law_events : List Str := ["_law_s", "_law_standing", "_law_found", "_law_k", "_law_reading", "_law_other"]
def P__law_events : List Str := ["_law_s", "_law_standing"]
def ir__law_events : List Si :=
  [.s (Sm.asgO 2 (Xn.lst [])),
   .s (Sm.for_ (.n 3) (Ib.r1 (Xp.bi .len [(Xo.v 1)]))
    [.s (Sm.asg (.n 4) (Xp.ix ((Xp.ix (Xo.v 1) (Xo.v 3))).o ((Xp.c (.int 0))).o)),
     .s (Sm.asgO 2 (Xn.add (Xo.v 2) ((Xp.fz (Xn.lst [(Xp.tup [(Xp.c (.str [103, 105, 118, 101])), (Xp.v 3)]), (Xp.tup [(Xp.c (.str [114, 101, 115, 116, 97, 114, 116])), (Xp.v 3)])]))).o)),
     .s (Sm.for_ (.n 5) (Ib.r1 (Xp.bin .Add ((Xp.ix (Xo.v 0) ((Xp.c (.int 2))).o)).o ((Xp.c (.int 1))).o))
      [.s (Sm.ife (Xt.and (Xt.cmp .NotEq (Xo.v 5) (Xo.v 4)) (Xt.chain .LtE .LtE ((Xp.bin .Sub (Xo.v 4) ((Xp.ix (Xo.v 0) ((Xp.c (.int 4))).o)).o)).o (Xo.v 5) ((Xp.bin .Add (Xo.v 4) ((Xp.ix (Xo.v 0) ((Xp.c (.int 5))).o)).o)).o))
        [.s (Sm.app 2 (Xp.tup [(Xp.c (.str [99, 108, 111, 99, 107])), (Xp.v 3), (Xp.v 5)]))]
        []), .kill [5]]), .kill [3, 4, 5]]),
   .s (Sm.ret (Xp.fz (Xn.bi .sorted [(Xo.v 2)])))]
def F__law_events : Fsem := pureOf (fnF 6 2 ir__law_events)
def N__law_begin : List Str := ["_law_s"]
def P__law_begin : List Str := ["_law_s"]
def ir__law_begin : List Si :=
  [.s (Sm.ret (Xp.mul ((Xp.tup [(Xp.tup [(Xp.c (.int 0)), (Xp.neg (Xp.c (.int 1))), (Xp.c (.int 0)), (Xp.neg (Xp.c (.int 1)))])])).o ((Xp.bi .len [((Xp.ix (Xo.v 0) ((Xp.c (.int 0))).o)).o])).o))]
def F__law_begin : Fsem := pureOf (fnF 1 1 ir__law_begin)
def N__law_history : List Str := ["_law_row", "_law_s", "_law_many", "_law_k", "_law_standing", "_law_events_here", "_law_told", "_law_some", "_law_event", "_law_number", "_law_one"]
def P__law_history : List Str := ["_law_row", "_law_s", "_law_many"]
def ir__law_history : List Si :=
  [.s (Sm.par [4, 5, 6] [.inl (Xp.call "_law_begin" F__law_begin [(Xp.v 1)]), .inr (Xn.lst []), .inl (Xp.fz (Xn.lst []))]),
   .s (Sm.for_ (.n 3) (Ib.r1 (Xp.call "_law_taken" F__law_taken [(Xp.v 0), (Xp.bin .Add (Xo.v 2) ((Xp.c (.int 1))).o)]))
    [.s (Sm.asg (.n 7) (Xp.call "_law_events" F__law_events [(Xp.v 1), (Xp.v 4)])),
     .s (Sm.asg (.n 8) (Xp.call "_law_pick" F__law_pick [(Xp.v 0), (Xp.bin .Add (Xo.v 7) ((Xp.fz (Xn.lc (Xp.v 10) (.n 10) (Ib.seq (Xp.v 7)) (some (Xt.cmp .Eq ((Xp.ix (Xo.v 10) ((Xp.c (.int 0))).o)).o ((Xp.c (.str [103, 105, 118, 101]))).o)) [("_law_one", 10)]))).o)])),
     .s (Sm.asg (.tu [(.n 4), (.n 9)]) (Xp.call "_law_step" F__law_step [(Xp.v 1), (Xp.v 4), (Xp.v 8)])),
     .s (Sm.app 5 (Xp.v 8)),
     .s (Sm.asg (.n 6) (Xp.bin .Add (Xo.v 6) ((Xp.mul ((Xp.fz (Xn.lst [(Xp.v 9)]))).o ((Xp.bi .int [((Xp.cmp .Eq ((Xp.ix (Xo.v 8) ((Xp.c (.int 0))).o)).o ((Xp.c (.str [103, 105, 118, 101]))).o)).o])).o)).o)), .kill [3, 7, 8, 9]]),
   .frz 5,
   .s (Sm.ret (Xp.tup [(Xp.v 5), (Xp.v 4), (Xp.v 6)]))]
def F__law_history : Fsem := rowOf (fnF 11 3 ir__law_history)
def N__law_any : List Str := ["_law_row", "_law_s", "_law_found", "_law_words_here", "_law_last", "_law_counter", "_law_saved"]
def P__law_any : List Str := ["_law_row", "_law_s"]
def ir__law_any : List Si :=
  [.s (Sm.asgO 2 (Xn.lst [])),
   .s (Sm.for_ (.n 3) (Ib.seq (Xp.ix (Xo.v 1) ((Xp.c (.int 0))).o))
    [.s (Sm.asg (.n 4) (Xp.bin .Sub ((Xp.call "_law_taken" F__law_taken [(Xp.v 0), (Xp.bin .Add ((Xp.ix (Xo.v 1) ((Xp.c (.int 2))).o)).o ((Xp.c (.int 2))).o)])).o ((Xp.c (.int 1))).o)),
     .s (Sm.asg (.n 5) (Xp.ite (Xt.cmp .GtE (Xo.v 4) ((Xp.c (.int 0))).o) (Xp.call "_law_taken" F__law_taken [(Xp.v 0), (Xp.bin .Add ((Xp.ix (Xo.v 1) ((Xp.c (.int 3))).o)).o ((Xp.c (.int 1))).o)]) (Xp.c (.int 0)))),
     .s (Sm.asg (.n 6) (Xp.ite (Xt.cmp .NotEq ((Xp.ix (Xo.v 3) ((Xp.c (.int 2))).o)).o ((Xp.c (.str [102, 111, 114, 103, 101, 116]))).o) (Xp.bin .Sub ((Xp.call "_law_taken" F__law_taken [(Xp.v 0), (Xp.bin .Add ((Xp.ix (Xo.v 1) ((Xp.c (.int 2))).o)).o ((Xp.c (.int 2))).o)])).o ((Xp.c (.int 1))).o) (Xp.neg (Xp.c (.int 1))))),
     .s (Sm.app 2 (Xp.tup [(Xp.call "_law_taken" F__law_taken [(Xp.v 0), (Xp.bin .Add ((Xp.ix (Xo.v 1) ((Xp.c (.int 2))).o)).o ((Xp.c (.int 1))).o)]), (Xp.v 4), (Xp.v 5), (Xp.v 6)])), .kill [3, 4, 5, 6]]),
   .s (Sm.ret (Xp.bi .tuple [(Xo.v 2)]))]
def F__law_any : Fsem := rowOf (fnF 7 2 ir__law_any)
def N_law : List Str := ["_law_script", "_law_row", "_law_s", "_law_one", "_law_turn", "_law_events_here", "_law_standing", "_law_told", "_law_here", "_law_event"]
def P_law : List Str := ["_law_script"]
def ir_law : List Si :=
  [.s (Sm.asg (.n 1) (Xp.hp (Xn.lst [(Xp.v 0), (Xp.c (.int 0)), (Xp.c (.int 0)), (Xp.c (.int 0))]))),
   .s (Sm.asg (.n 2) (Xp.call "_law_scheme" F__law_scheme [(Xp.v 1), (Xp.c (.int 2))])),
   .s (Sm.ife (Xt.cmp .Eq ((Xp.call "_law_taken" F__law_taken [(Xp.v 1), (Xp.c (.int 2))])).o ((Xp.c (.int 0))).o)
    [.s (Sm.asg (.n 2) (Xp.bin .Add ((Xp.bin .Add ((Xp.sl (Xo.v 2) none (some (Xp.c (.int 2))))).o ((Xp.tup [(Xp.bin .Add ((Xp.c (.int 1))).o ((Xp.call "_law_taken" F__law_taken [(Xp.v 1), (Xp.c (.int 2))])).o), (Xp.call "_law_taken" F__law_taken [(Xp.v 1), (Xp.c (.int 2))])])).o)).o ((Xp.sl (Xo.v 2) (some (Xp.c (.int 4))) none)).o))]
    []),
   .s (Sm.asg (.n 3) (Xp.call "_law_setup" F__law_setup [(Xp.v 2)])),
   .s (Sm.ife (Xt.cmp .NotEq ((Xp.call "begin" F_begin [(Xp.v 3)])).o ((Xp.call "_law_begin" F__law_begin [(Xp.v 2)])).o)
    [.s (Sm.ret (Xp.c (.bl false)))]
    []),
   .s (Sm.asg (.tu [(.n 5), (.n 6), (.n 7)]) (Xp.call "_law_history" F__law_history [(Xp.v 1), (Xp.v 2), (Xp.c (.int 40))])),
   .s (Sm.ife (Xt.cmp .NotEq ((Xp.call "run" F_run [(Xp.v 3), (Xp.v 5)])).o ((Xp.tup [(Xp.v 6), (Xp.v 7)])).o)
    [.s (Sm.ret (Xp.c (.bl false)))]
    []),
   .s (Sm.for_ (.n 4) (Ib.r1 (Xp.c (.int 6)))
    [.s (Sm.asg (.n 8) (Xp.call "_law_any" F__law_any [(Xp.v 1), (Xp.v 2)])),
     .s (Sm.for_ (.n 9) (Ib.seq (Xp.call "_law_events" F__law_events [(Xp.v 2), (Xp.v 8)]))
      [.s (Sm.ife (Xt.cmp .NotEq ((Xp.call "after" F_after [(Xp.v 3), (Xp.v 8), (Xp.v 9)])).o ((Xp.call "_law_step" F__law_step [(Xp.v 2), (Xp.v 8), (Xp.v 9)])).o)
        [.s (Sm.ret (Xp.c (.bl false)))]
        []), .kill [9]]), .kill [4, 8, 9]]),
   .s (Sm.ret (Xp.cmp .Eq ((Xp.call "run" F_run [(Xp.v 3), (Xp.fz (Xn.lst []))])).o ((Xp.tup [(Xp.call "_law_begin" F__law_begin [(Xp.v 2)]), (Xp.fz (Xn.lst []))])).o))]
def F_law : Fsem := pureOf (fnF 10 1 ir_law)
end Ev

set_option Elab.async false
set_option linter.all false
set_option maxRecDepth 100000
namespace Ev
open PySem L2 Pf
local macro_rules | `(tactic| walk_at "ev") => `(tactic| simp [startR, semA, semB, semS, semX, semO, semT, nrs, nr, nrf, nrp, Tg.put, Tg.puts, on1, on2, onL, vws, binE, ixE, slE, items, atI, ixN, ixNat, fldE, isIns, biE, bnE, itemsL, lenE, isE, List.lookup_cons, frzR, killR, setsX, slOf, toB, chainS, ofB, truE, rngOk, mulOk, powOk, putD, cmp_eq_int, cmp_ne_int, isNonD, line, lcSem, wipeR])
inductive Wb | trust | hold | refuse
  deriving DecidableEq
inductive Wf | wrap | borrow | refuse
  deriving DecidableEq
inductive Wr | forget | saved | wait
  deriving DecidableEq
def Wb.s : Wb → List Nat | .trust => [116, 114, 117, 115, 116] | .hold => [104, 111, 108, 100] | .refuse => [114, 101, 102, 117, 115, 101]
def Wf.s : Wf → List Nat | .wrap => [119, 114, 97, 112] | .borrow => [98, 111, 114, 114, 111, 119] | .refuse => [114, 101, 102, 117, 115, 101]
def Wr.s : Wr → List Nat | .forget => [102, 111, 114, 103, 101, 116] | .saved => [115, 97, 118, 101, 100] | .wait => [119, 97, 105, 116]
structure Pl where
  b : Wb
  f : Wf
  r : Wr
  deriving DecidableEq
structure Su where
  ps : List (Pl × Int)
  top : Int
  limit : Int
  back : Int
  ahead : Int
def dPl (p : Pl) : D := .ins 0 [(0, .tup [.str p.b.s, .str p.f.s, .str p.r.s])]
def dMk (x : Pl × Int) : D := .tup [dPl x.1, .int x.2]
def dSu (s : Su) : D := .ins 1 [(1, .tup (s.ps.map dMk)), (2, .tup [.int s.top, .int s.limit, .int s.back, .int s.ahead])]
theorem nr_Pl (p : Pl) : nr (dPl p) = true := rfl
theorem nrs_mk : ∀ l : List (Pl × Int), nrs (l.map dMk) = true
  | [] => rfl
  | x :: l => by simp [nrs, dMk, nr, nr_Pl, nrs_mk l]
theorem nr_Su (s : Su) : nr (dSu s) = true := by simp [dSu, nr, nrf, nrs_mk, nrs]
theorem at_on_back (p : Pl) (h : Hh) : F_Plan_on_back [dPl p] h = .ok (.str p.b.s) h := by
  refine pure_of (h' := []) (by simp [nrs, nr_Pl]) rfl (by rfl) ?_
  unfold ir_Plan_on_back dPl
  walk_at "ev"
theorem at_on_full (p : Pl) (h : Hh) : F_Plan_on_full [dPl p] h = .ok (.str p.f.s) h := by
  refine pure_of (h' := []) (by simp [nrs, nr_Pl]) rfl (by rfl) ?_
  unfold ir_Plan_on_full dPl
  walk_at "ev"
theorem at_on_restart (p : Pl) (h : Hh) : F_Plan_on_restart [dPl p] h = .ok (.str p.r.s) h := by
  refine pure_of (h' := []) (by simp [nrs, nr_Pl]) rfl (by rfl) ?_
  unfold ir_Plan_on_restart dPl
  walk_at "ev"
theorem at_top (s : Su) (h : Hh) : F_Setup_top [dSu s] h = .ok (.int s.top) h := by
  refine pure_of (h' := []) (by simp [nrs, nr_Su]) rfl (by rfl) ?_
  unfold ir_Setup_top dSu
  walk_at "ev"
theorem at_limit (s : Su) (h : Hh) : F_Setup_limit [dSu s] h = .ok (.int s.limit) h := by
  refine pure_of (h' := []) (by simp [nrs, nr_Su]) rfl (by rfl) ?_
  unfold ir_Setup_limit dSu
  walk_at "ev"
theorem at_back (s : Su) (h : Hh) : F_Setup_back [dSu s] h = .ok (.int s.back) h := by
  refine pure_of (h' := []) (by simp [nrs, nr_Su]) rfl (by rfl) ?_
  unfold ir_Setup_back dSu
  walk_at "ev"
theorem at_ahead (s : Su) (h : Hh) : F_Setup_ahead [dSu s] h = .ok (.int s.ahead) h := by
  refine pure_of (h' := []) (by simp [nrs, nr_Su]) rfl (by rfl) ?_
  unfold ir_Setup_ahead dSu
  walk_at "ev"
@[simp] theorem eq_Wb_trust (w : Wb) : cmpE .Eq (.str w.s) (.str [116, 114, 117, 115, 116]) = some (decide (w = .trust)) := by cases w <;> rfl
@[simp] theorem ne_Wb_trust (w : Wb) : cmpE .NotEq (.str w.s) (.str [116, 114, 117, 115, 116]) = some (!decide (w = .trust)) := by cases w <;> rfl
@[simp] theorem eq_Wb_hold (w : Wb) : cmpE .Eq (.str w.s) (.str [104, 111, 108, 100]) = some (decide (w = .hold)) := by cases w <;> rfl
@[simp] theorem ne_Wb_hold (w : Wb) : cmpE .NotEq (.str w.s) (.str [104, 111, 108, 100]) = some (!decide (w = .hold)) := by cases w <;> rfl
@[simp] theorem eq_Wb_refuse (w : Wb) : cmpE .Eq (.str w.s) (.str [114, 101, 102, 117, 115, 101]) = some (decide (w = .refuse)) := by cases w <;> rfl
@[simp] theorem ne_Wb_refuse (w : Wb) : cmpE .NotEq (.str w.s) (.str [114, 101, 102, 117, 115, 101]) = some (!decide (w = .refuse)) := by cases w <;> rfl
@[simp] theorem eq_Wf_wrap (w : Wf) : cmpE .Eq (.str w.s) (.str [119, 114, 97, 112]) = some (decide (w = .wrap)) := by cases w <;> rfl
@[simp] theorem ne_Wf_wrap (w : Wf) : cmpE .NotEq (.str w.s) (.str [119, 114, 97, 112]) = some (!decide (w = .wrap)) := by cases w <;> rfl
@[simp] theorem eq_Wf_borrow (w : Wf) : cmpE .Eq (.str w.s) (.str [98, 111, 114, 114, 111, 119]) = some (decide (w = .borrow)) := by cases w <;> rfl
@[simp] theorem ne_Wf_borrow (w : Wf) : cmpE .NotEq (.str w.s) (.str [98, 111, 114, 114, 111, 119]) = some (!decide (w = .borrow)) := by cases w <;> rfl
@[simp] theorem eq_Wf_refuse (w : Wf) : cmpE .Eq (.str w.s) (.str [114, 101, 102, 117, 115, 101]) = some (decide (w = .refuse)) := by cases w <;> rfl
@[simp] theorem ne_Wf_refuse (w : Wf) : cmpE .NotEq (.str w.s) (.str [114, 101, 102, 117, 115, 101]) = some (!decide (w = .refuse)) := by cases w <;> rfl
@[simp] theorem eq_Wr_forget (w : Wr) : cmpE .Eq (.str w.s) (.str [102, 111, 114, 103, 101, 116]) = some (decide (w = .forget)) := by cases w <;> rfl
@[simp] theorem ne_Wr_forget (w : Wr) : cmpE .NotEq (.str w.s) (.str [102, 111, 114, 103, 101, 116]) = some (!decide (w = .forget)) := by cases w <;> rfl
@[simp] theorem eq_Wr_saved (w : Wr) : cmpE .Eq (.str w.s) (.str [115, 97, 118, 101, 100]) = some (decide (w = .saved)) := by cases w <;> rfl
@[simp] theorem ne_Wr_saved (w : Wr) : cmpE .NotEq (.str w.s) (.str [115, 97, 118, 101, 100]) = some (!decide (w = .saved)) := by cases w <;> rfl
@[simp] theorem eq_Wr_wait (w : Wr) : cmpE .Eq (.str w.s) (.str [119, 97, 105, 116]) = some (decide (w = .wait)) := by cases w <;> rfl
@[simp] theorem ne_Wr_wait (w : Wr) : cmpE .NotEq (.str w.s) (.str [119, 97, 105, 116]) = some (!decide (w = .wait)) := by cases w <;> rfl
theorem nrs_pl : ∀ l : List (Pl × Int), nrs (l.map fun x => dPl x.1) = true
  | [] => rfl
  | x :: l => by simp [nrs, nr_Pl, nrs_pl l]
/-- a comprehension whose items change nothing -/
theorem lc_map {α : Type} {t : Tg} {b : Rho → Hh → Res Bool} {e : Rho → Hh → Res D} {r : Rho} {h : Hh} {f g : α → D} : ∀ (l : List α), (∀ x ∈ l, ∃ r2, t.put (f x) r = some r2 ∧ b r2 h = .ok true h ∧ e r2 h = .ok (g x) h) → lcGo t b e r (l.map f) h = .ok (l.map g) h
  | [], _ => rfl
  | x :: l, hx => by
    obtain ⟨r2, h1, h2, h3⟩ := hx x List.mem_cons_self
    have ih := lc_map l fun y hy => hx y (List.mem_cons_of_mem _ hy)
    simp [lcGo, h1, h2, h3, ih]
theorem at_plans (s : Su) (h : Hh) (hl : s.ps.length ≤ 2) : F_Setup_plans [dSu s] h = .ok (.tup (s.ps.map fun x => dPl x.1)) h := by
  have hl' : s.ps.length ≤ 16777216 := by omega
  have key := lc_map (t := .tu [.n 1, .n 2]) (b := semT none) (e := (Xp.v 1).sem) (r := [.pl (dSu s), .un, .un]) (h := []) (f := dMk) (g := fun x => dPl x.1) s.ps fun x _ => ⟨_, rfl, rfl, rfl⟩
  refine pure_of (h' := []) (by simp [nrs, nr_Su]) rfl (by simp [nr, nrs_pl]) ?_
  unfold ir_Setup_plans dSu at *
  walk_at "ev"
  simp [hl', key, vws, biE, items]
structure Si4 where
  a : Int
  b : Int
  c : Int
  d : Int
  deriving DecidableEq
def dSi (x : Si4) : D := .tup [.int x.a, .int x.b, .int x.c, .int x.d]
def nxt (s : Su) (p : Pl) (x : Si4) : Option (Int × Int) :=
  if x.b = -1 then (if p.r = .wait ∧ x.a ≤ x.d then none else some (x.a, 0))
  else if x.b < x.a ∨ (x.a < x.b ∧ p.b = .trust) then some (x.a, 0)
  else if x.a < x.b ∧ p.b = .refuse then none
  else if x.c < s.limit then some (x.b, x.c + 1)
  else if p.f = .refuse then none
  else if p.f = .wrap then some (x.b, 0)
  else if x.b < s.top then some (x.b + 1, 0) else none
def dP (x : Int × Int) : D := .tup [.int x.1, .int x.2]
theorem wb_eq (w : Wb) (v : Wb) : (w.s = v.s) ↔ w = v := by cases w <;> cases v <;> simp [Wb.s]
theorem at_next (s : Su) (h : Hh) (hl : s.ps.length ≤ 2) (m : Nat) (p : Pl) (k : Int) (hm : s.ps[m]? = some (p, k)) (x : Si4) : F_next_number [dSu s, .int m, dSi x] h = .ok (dO ((nxt s p x).map dP)) h := by
  have hix : atI (s.ps.map fun x => dPl x.1) (m : Int) = some (dPl p) := by
    unfold atI ixN
    have := (List.getElem?_eq_some_iff.mp hm).1
    have e : s.ps[m] = (p, k) := (List.getElem?_eq_some_iff.mp hm).2
    simp [this, e]
  obtain ⟨a, b, c, d⟩ := x
  have iS : ∀ h, (vw h (dSu s)) = some (dSu s) := fun h => rfl
  have iS2 : isIns 1 (dSu s) = true := rfl
  have iP : ∀ h, (vw h (dPl p)) = some (dPl p) := fun h => rfl
  have iP2 : isIns 0 (dPl p) = true := rfl
  refine (pure_of (h' := []) (by simp [nrs, nr_Su, nr, dSi]) rfl (by cases nxt s p _ <;> rfl) ?_)
  unfold ir_next_number dSi nxt
  simp [startR, Tg.put, Tg.puts, at_plans s _ hl, iS, iS2, on1, on2, ixE, items, hix, iP, iP2, noX, at_on_back, at_on_full, at_on_restart, at_top, at_limit, cmp_eq_int, semA, line, binE]
  simp only [if_or, if_and, map_if, dO_if, ok_if, Option.map_some, Option.map_none, dO_some, dO_none, dP]
end Ev

set_option Elab.async false
set_option linter.all false
set_option maxRecDepth 100000
namespace Ev
open PySem L2 Pf
local macro_rules | `(tactic| walk_at "ev") => `(tactic| simp [startR, semA, semB, semS, semX, semO, semT, nrs, nr, nrf, nrp, Tg.put, Tg.puts, on1, on2, onL, vws, binE, ixE, slE, items, atI, ixN, ixNat, fldE, isIns, biE, bnE, itemsL, lenE, isE, List.lookup_cons, frzR, killR, setsX, slOf, toB, chainS, ofB, truE, rngOk, mulOk, powOk, putD, cmp_eq_int, cmp_ne_int, isNonD, line, lcSem, wipeR])
theorem atI_nat (l : List D) (n : Nat) : atI l (n : Int) = l[n]? := by
  unfold atI ixN
  by_cases h : n < l.length
  · simp [h]
  · simp [h]
@[simp] theorem ix0 (a : D) (l : List D) : atI (a :: l) 0 = some a := by simp [atI, ixN]
@[simp] theorem ix1 (a b : D) (l : List D) : atI (a :: b :: l) 1 = some b := (atI_nat _ 1).trans rfl
@[simp] theorem ix2 (a b c : D) (l : List D) : atI (a :: b :: c :: l) 2 = some c := (atI_nat _ 2).trans rfl
@[simp] theorem ix3 (a b c d : D) (l : List D) : atI (a :: b :: c :: d :: l) 3 = some d := (atI_nat _ 3).trans rfl
@[simp] theorem ix4 (a b c d e : D) (l : List D) : atI (a :: b :: c :: d :: e :: l) 4 = some e := (atI_nat _ 4).trans rfl
@[simp] theorem ix5 (a b c d e f : D) (l : List D) : atI (a :: b :: c :: d :: e :: f :: l) 5 = some f := (atI_nat _ 5).trans rfl
theorem at_len (s : Su) (h : Hh) : F_Setup___len__ [dSu s] h = .ok (.int s.ps.length) h := by
  refine pure_of (h' := []) (by simp [nrs, nr_Su]) rfl (by rfl) ?_
  unfold ir_Setup___len__ dSu
  walk_at "ev"
theorem at_marks (s : Su) (h : Hh) (hl : s.ps.length ≤ 2) : F_Setup_marks [dSu s] h = .ok (.tup (s.ps.map fun x => .int x.2)) h := by
  have hl' : s.ps.length ≤ 16777216 := by omega
  have key := lc_map (t := .tu [.n 1, .n 2]) (b := semT none) (e := (Xp.v 2).sem) (r := [.pl (dSu s), .un, .un]) (h := []) (f := dMk) (g := fun x => .int x.2) s.ps fun x _ => ⟨_, rfl, rfl, rfl⟩
  have nn : ∀ l : List (Pl × Int), nrs (l.map fun x => D.int x.2) = true := fun l => by induction l <;> simp_all [nrs, nr]
  refine pure_of (h' := []) (by simp [nrs, nr_Su]) rfl (by simp [nr, nn]) ?_
  unfold ir_Setup_marks dSu at *
  walk_at "ev"
  simp [hl', key, vws, biE, items]
theorem at_is_number (v a b : Int) (h : Hh) : F_is_number [.int v, .int a, .int b] h = .ok (.bl (decide (a ≤ v ∧ v ≤ b))) h := by
  refine pure_of (h' := []) rfl rfl rfl ?_
  unfold ir_is_number
  walk_at "ev"
  by_cases q : a ≤ v <;> simp [q]
theorem at_first (l : List D) (d : D) (h : Hh) (hn : nr (.tup (d :: l)) = true) : F_first_of [.tup (d :: l)] h = .ok d h := by
  refine pure_of (h' := []) (by simpa [nrs] using hn) rfl (by simp [nr, nrs] at hn ⊢; exact hn.1) ?_
  unfold ir_first_of
  walk_at "ev"
theorem at_giving (s : Su) (h : Hh) (hl : s.ps.length ≤ 2) (m : Nat) (p : Pl) (k : Int) (hm : s.ps[m]? = some (p, k)) (x : Si4) :
    F_giving [dSu s, .int m, dSi x] h = .ok (match nxt s p x with
      | none => .tup [dSi x, .non]
      | some q => .tup [dSi ⟨x.a, q.1, q.2, if p.r = .forget then -1 else q.1⟩, dP q]) h := by
  have hix : atI (s.ps.map fun x => dPl x.1) (m : Int) = some (dPl p) := by
    unfold atI ixN
    have := (List.getElem?_eq_some_iff.mp hm).1
    have e : s.ps[m] = (p, k) := (List.getElem?_eq_some_iff.mp hm).2
    simp [this, e]
  have iS : ∀ h, (vw h (dSu s)) = some (dSu s) := fun h => rfl
  have iS2 : isIns 1 (dSu s) = true := rfl
  have iP : ∀ h, (vw h (dPl p)) = some (dPl p) := fun h => rfl
  have iP2 : isIns 0 (dPl p) = true := rfl
  have hn := at_next s [] hl m p k hm x
  cases e : nxt s p x with
  | none =>
    rw [e] at hn
    refine (pure_of (h' := []) (by simp [nrs, nr_Su, nr, dSi]) rfl (by rfl) ?_)
    unfold ir_giving
    simp [startR, Tg.put, Tg.puts, hn, iS, iS2, on1, on2, ixE, items, hix, iP, iP2, noX, at_on_restart, semA, line, isNonD]
  | some q =>
    rw [e] at hn
    obtain ⟨x1, x2, x3, x4⟩ := x
    refine (pure_of (h' := []) (by simp [nrs, nr_Su, nr, dSi]) rfl (by rfl) ?_)
    unfold ir_giving dSi
    unfold dSi at hn
    simp [startR, Tg.put, Tg.puts, hn, iS, iS2, on1, on2, ixE, items, hix, iP, iP2, noX, at_on_restart, semA, line, isNonD, dO, dP, at_plans s _ hl]
    by_cases q : p.r = .forget <;> simp [q, startR, semA, on1, on2, ixE, items, line]
end Ev

set_option Elab.async false
set_option linter.all false
set_option maxRecDepth 100000
namespace Ev
open PySem L2 Pf
def rst (s : Su) (p : Pl) (x : Si4) : Si4 := if p.r = .saved ∧ x.d ≠ -1 then ⟨x.a, x.d, s.limit, x.d⟩ else ⟨x.a, -1, 0, x.d⟩
theorem plan_ix (s : Su) {m : Nat} {p : Pl} {k : Int} (hm : s.ps[m]? = some (p, k)) : atI (s.ps.map fun x => dPl x.1) (m : Int) = some (dPl p) := by
  rw [atI_nat, List.getElem?_map, hm]; rfl
theorem mark_ix (s : Su) {m : Nat} {p : Pl} {k : Int} (hm : s.ps[m]? = some (p, k)) : atI (s.ps.map fun x => D.int x.2) (m : Int) = some (.int k) := by
  rw [atI_nat, List.getElem?_map, hm]; rfl
@[simp] theorem vw_Su (s : Su) (h : Hh) : vw h (dSu s) = some (dSu s) := rfl
@[simp] theorem isi_Su (s : Su) : isIns 1 (dSu s) = true := rfl
@[simp] theorem vw_Pl (p : Pl) (h : Hh) : vw h (dPl p) = some (dPl p) := rfl
@[simp] theorem isi_Pl (p : Pl) : isIns 0 (dPl p) = true := rfl
theorem at_restarted (s : Su) (h : Hh) (hl : s.ps.length ≤ 2) (m : Nat) (p : Pl) (k : Int) (hm : s.ps[m]? = some (p, k)) (x : Si4) : F_restarted [dSu s, .int m, dSi x] h = .ok (dSi (rst s p x)) h := by
  obtain ⟨a, b, c, d⟩ := x
  refine (pure_of (h' := []) (by simp [nrs, nr_Su, nr, dSi]) rfl (by rfl) ?_)
  unfold ir_restarted dSi rst
  simp [startR, Tg.put, Tg.puts, at_plans s _ hl, on1, on2, ixE, items, plan_ix s hm, noX, at_on_restart, at_limit, semA, line, cmp_ne_int]
  by_cases q : p.r = .saved <;> by_cases q2 : d = -1 <;> simp [q, q2]
structure Su.Ok (s : Su) : Prop where
  l1 : 1 ≤ s.ps.length
  l2 : s.ps.length ≤ 2
  t1 : 1 ≤ s.top
  t2 : s.top ≤ 2
  m1 : 0 ≤ s.limit
  m2 : s.limit ≤ 1
  b1 : 0 ≤ s.back
  b2 : s.back ≤ 2
  a1 : 1 ≤ s.ahead
  a2 : s.ahead ≤ 2
structure Si4.Ok (s : Su) (x : Si4) : Prop where
  a1 : 0 ≤ x.a
  a2 : x.a ≤ s.top
  b1 : -1 ≤ x.b
  b2 : x.b ≤ s.top
  c1 : 0 ≤ x.c
  c2 : x.c ≤ s.limit
  d1 : -1 ≤ x.d
  d2 : x.d ≤ s.top
/-- a comprehension with a condition whose items change nothing -/
theorem lc_filter {α : Type} {t : Tg} {b : Rho → Hh → Res Bool} {e : Rho → Hh → Res D} {r : Rho} {h : Hh} {f g : α → D} {p : α → Bool} : ∀ (l : List α), (∀ x ∈ l, ∃ r2, t.put (f x) r = some r2 ∧ b r2 h = .ok (p x) h ∧ e r2 h = .ok (g x) h) → lcGo t b e r (l.map f) h = .ok ((l.filter p).map g) h
  | [], _ => rfl
  | x :: l, hx => by
    obtain ⟨r2, h1, h2, h3⟩ := hx x List.mem_cons_self
    have ih := lc_filter l fun y hy => hx y (List.mem_cons_of_mem _ hy)
    cases q : p x <;> simp [lcGo, h1, h2, h3, ih, q, List.filter_cons]
/-- the readings to which a clock can jump -/
def rdg (s : Su) (x : Si4) : List Int := ((List.range (min s.top (x.a + s.ahead) + 1 - max 0 (x.a - s.back)).toNat).map fun (i : Nat) => max 0 (x.a - s.back) + i).filter fun r => decide (r ≠ x.a)
theorem at_readings (s : Su) (ok : s.Ok) (h : Hh) (x : Si4) (xo : x.Ok s) : F_readings [dSu s, dSi x] h = .ok (.lst ((rdg s x).map .int)) h := by
  obtain ⟨a, b, c, d⟩ := x
  obtain ⟨o1, o2, o3, o4, o5, o6, o7, o8, o9, o10⟩ := ok
  obtain ⟨x1, x2, _, _, _, _, _, _⟩ := xo
  dsimp only at *
  have nn : ∀ l : List Int, nrs (l.map D.int) = true := fun l => by induction l <;> simp_all [nrs, nr]
  refine (pure_of (h' := []) (by simp [nrs, nr_Su, nr, dSi]) rfl (by simp [nr, nn]) ?_)
  unfold ir_readings dSi
  have e1 : (if s.back < a then a - s.back else 0) = max 0 (a - s.back) := by split <;> omega
  have e2 : (if a + s.ahead < s.top then a + s.ahead else s.top) = min s.top (a + s.ahead) := by split <;> omega
  have e3 : rngOk (max 0 (a - s.back)) = true := by unfold rngOk; simp; omega
  have e4 : rngOk (min s.top (a + s.ahead) + 1) = true := by unfold rngOk; simp; omega
  have e5 : (min s.top (a + s.ahead) + 1 - max 0 (a - s.back)).toNat ≤ 16777216 := by omega
  have key := lc_filter (t := .n 4) (b := semT (some (Xt.cmp .NotEq (Xo.v 4) (Xp.ix (Xo.v 1) (Xp.c (.int 0)).o).o))) (e := (Xp.v 4).sem) (r := [.pl (dSu s), .pl (.tup [.int a, .int b, .int c, .int d]), .pl (.int (max 0 (a - s.back))), .pl (.int (min s.top (a + s.ahead))), .un]) (h := []) (f := fun r => D.int r) (g := fun r => D.int r) (p := fun r => decide (r ≠ a)) ((List.range (min s.top (a + s.ahead) + 1 - max 0 (a - s.back)).toNat).map fun (i : Nat) => max 0 (a - s.back) + (i : Int)) fun x _ => ⟨_, rfl, by simp [semT, on1, on2, ixE, items, cmp_ne_int], rfl⟩
  rw [List.map_map] at key
  simp [startR, Tg.put, Tg.puts, on1, on2, onL, vws, biE, ixE, items, noX, at_top, at_back, at_ahead, semA, semB, semX, line, binE, lcSem, Xa.sem, setsX, ofP, slOf, e1, e2, e3, e4, e5, wipeR]
  unfold rdg
  simp only [Function.comp_def] at key
  simp [key]
end Ev

set_option Elab.async false
set_option linter.all false
set_option maxRecDepth 100000
namespace Ev
open PySem L2 Pf
/-- a loop that adds to a list of its own -/
theorem for_apps {α : Type} {t : Tg} {bd : Rho → Hh → Out} {f : α → D} {g : α → List D} {R : List D → Rho} {h : Hh} {B : Nat} : ∀ (l : List α) (acc : List D), acc.length + (l.flatMap g).length ≤ B →
    (∀ x ∈ l, ∀ acc, acc.length + (g x).length ≤ B → ∃ r2, t.put (f x) (R acc) = some r2 ∧ bd r2 h = .nx (R (acc ++ g x)) h) → forGo t bd (l.map f) (R acc) h = .nx (R (acc ++ l.flatMap g)) h
  | [], acc, _, _ => by simp [forGo]
  | x :: l, acc, hB, hx => by
    simp only [List.flatMap_cons, List.length_append] at hB
    obtain ⟨r2, h1, h2⟩ := hx x List.mem_cons_self acc (by omega)
    have ih := for_apps (R := R) (t := t) (bd := bd) (f := f) (h := h) l (acc ++ g x) (by rw [List.length_append]; omega) fun y hy => hx y (List.mem_cons_of_mem _ hy)
    simp only [List.map_cons, forGo, h1, h2, ih, List.flatMap_cons, List.append_assoc]
theorem flat1 {α β : Type} (f : α → β) : ∀ l : List α, l.flatMap (fun x => [f x]) = l.map f
  | [] => rfl
  | x :: l => by simp [flat1 f l]
theorem cut_from (l : List D) (n : Nat) : cutD l (some (n : Int)) none = l.drop n := by
  unfold cutD
  rw [HT.sIx_nat, HT.sIx_none]
  by_cases h : n ≤ l.length
  · rw [Nat.min_eq_left h]; exact List.take_of_length_le (by simp)
  · rw [Nat.min_eq_right (by omega), List.drop_eq_nil_of_le (Nat.le_refl _), List.drop_eq_nil_of_le (by omega)]; simp
theorem cut_to (l : List D) (n : Nat) : cutD l none (some (n : Int)) = l.take n := by
  unfold cutD
  rw [HT.sIx_nat, HT.sIx_none]
  simp [List.take_eq_take_iff]
theorem cut1 (a : D) (l : List D) : cutD (a :: l) (some 1) none = l := (cut_from (a :: l) 1).trans rfl
def sCL : List Nat := [99, 108, 111, 99, 107]
def sGI : List Nat := [103, 105, 118, 101]
def sRE : List Nat := [114, 101, 115, 116, 97, 114, 116]
/-- events -/
inductive Evt where
  | clock (m : Nat) (r : Int) | give (m : Nat) | restart (m : Nat)
  deriving DecidableEq
def dEv : Evt → D
  | .clock m r => .tup [.str sCL, .int m, .int r]
  | .give m => .tup [.str sGI, .int m]
  | .restart m => .tup [.str sRE, .int m]
def gvn (s : Su) (p : Pl) (x : Si4) : Si4 × Option (Int × Int) := match nxt s p x with
  | none => (x, none)
  | some q => (⟨x.a, q.1, q.2, if p.r = .forget then -1 else q.1⟩, some q)
theorem at_giving' (s : Su) (h : Hh) (hl : s.ps.length ≤ 2) (m : Nat) (p : Pl) (k : Int) (hm : s.ps[m]? = some (p, k)) (x : Si4) : F_giving [dSu s, .int m, dSi x] h = .ok (.tup [dSi (gvn s p x).1, dO ((gvn s p x).2.map dP)]) h := by
  rw [at_giving s h hl m p k hm x]
  unfold gvn
  cases nxt s p x <;> rfl
/-- (event, what stands behind it, the pair) -/
abbrev Mv := Evt × Si4 × Option (Int × Int)
def smv (s : Su) (m : Nat) (p : Pl) (x : Si4) : List Mv := (rdg s x).map (fun r => (.clock m r, ⟨r, x.b, x.c, x.d⟩, none)) ++ [(.give m, (gvn s p x).1, (gvn s p x).2), (.restart m, rst s p x, none)]
def dMv (v : Mv) : D := .tup [dEv v.1, dSi v.2.1, dO (v.2.2.map dP)]
theorem rdg_len (s : Su) (ok : s.Ok) (x : Si4) (xo : x.Ok s) : (rdg s x).length ≤ 3 := by
  unfold rdg
  refine Nat.le_trans (List.length_filter_le _ _) ?_
  obtain ⟨o1, o2, o3, o4, o5, o6, o7, o8, o9, o10⟩ := ok
  obtain ⟨x1, x2, _, _, _, _, _, _⟩ := xo
  simp; omega
theorem nr_Mv (v : Mv) : nr (dMv v) = true := by
  obtain ⟨e, x, o⟩ := v
  cases e <;> cases o <;> rfl
theorem nrs_map {α : Type} (f : α → D) (hf : ∀ x, nr (f x) = true) : ∀ l : List α, nrs (l.map f) = true
  | [] => rfl
  | x :: l => by simp [nrs, hf, nrs_map f hf l]
theorem at_moves1 (s : Su) (ok : s.Ok) (h : Hh) (m : Nat) (p : Pl) (k : Int) (hm : s.ps[m]? = some (p, k)) (x : Si4) (xo : x.Ok s) : F_single_moves [dSu s, .int m, dSi x] h = .ok (.lst ((smv s m p x).map dMv)) h := by
  have hR := at_readings s ok [] x xo
  have hG := at_giving' s [] ok.l2 m p k hm x
  have hT := at_restarted s [] ok.l2 m p k hm x
  have hL := rdg_len s ok x xo
  refine (pure_of (h' := []) (by simp [nrs, nr_Su, nr, dSi]) rfl (by simp [nr, nrs_map _ nr_Mv]) ?_)
  have key := for_apps (t := .n 4) (bd := semSs [.s (Sm.app 3 (Xp.tup [(Xp.tup [(Xp.g "CLOCK" (.str [99, 108, 111, 99, 107])), (Xp.v 1), (Xp.v 4)]), (Xp.tupS [.inl (Xp.v 4), .inr ((Xp.sl (Xo.v 2) (some (Xp.c (.int 1))) none)).o]), (Xp.c .non)])), .kill [4]]) (f := D.int) (g := fun r => [dMv (.clock m r, ⟨r, x.b, x.c, x.d⟩, none)]) (R := fun acc => [.pl (dSu s), .pl (.int m), .pl (dSi x), .ow (.lst acc), .un, .un, .un]) (h := []) (B := 1000) (rdg s x) [] (by rw [flat1]; simp; omega) fun r _ acc hB => ⟨_, rfl, by
    simp at hB
    simp [semA, semS, on1, on2, slE, items, line, killR, dSi, show acc.length < 16777216 by omega, semO, cut1, dMv, dEv, sCL]⟩
  unfold ir_single_moves
  simp [startR, Tg.put, Tg.puts, on1, on2, onL, semA, line, hR, hG, hT, items, key, flat1]
  have hL2 : (rdg s x).length < 16777216 := by omega
  have hL3 : (rdg s x).length + 1 < 16777216 := by omega
  simp [Tg.puts, Tg.put, semA, hT, line, frzR, dMv, dEv, sGI, sRE, smv, hL2, hL3]
end Ev

set_option Elab.async false
set_option linter.all false
set_option maxRecDepth 100000
namespace Ev
open PySem L2 Pf
theorem cut_succ (l : List D) (m : Nat) : cutD l (some ((m : Int) + 1)) none = l.drop (m + 1) := cut_from l (m + 1)
def idx : Nat → List Si4 → List (Nat × Si4)
  | _, [] => []
  | k, x :: l => (k, x) :: idx (k + 1) l
theorem enum_idx : ∀ (k : Nat) (l : List Si4), enumD k (l.map dSi) = (idx k l).map fun q => .tup [.int q.1, dSi q.2]
  | _, [] => rfl
  | k, x :: l => by
    have := enum_idx (k + 1) l
    simp only [List.map_cons, enumD, idx, this]
    try rfl
theorem idx_get : ∀ {k : Nat} {l : List Si4} {q : Nat × Si4}, q ∈ idx k l → k ≤ q.1 ∧ l[q.1 - k]? = some q.2
  | _, [], _, h => by simp [idx] at h
  | k, x :: l, q, h => by
    simp only [idx, List.mem_cons] at h
    rcases h with rfl | h
    · simp
    · obtain ⟨h1, h2⟩ := idx_get h
      refine ⟨by omega, ?_⟩
      rw [show q.1 - k = (q.1 - (k + 1)) + 1 by omega]
      simpa using h2
abbrev Rw := Evt × List Si4 × Option (Int × Int × Int)
def dN (x : Int × Int × Int) : D := .tup [.int x.1, .int x.2.1, .int x.2.2]
def dSt (l : List Si4) : D := .tup (l.map dSi)
def dRw (v : Rw) : D := .tup [dEv v.1, dSt v.2.1, dO (v.2.2.map dN)]
def up (st : List Si4) (m : Nat) (y : Si4) : List Si4 := st.take m ++ y :: st.drop (m + 1)
def rowOf1 (st : List Si4) (m : Nat) (k : Int) (v : Mv) : Rw := (v.1, up st m v.2.1, v.2.2.map fun q => (q.1, k, q.2))
def rows1 (s : Su) (st : List Si4) (q : Nat × Si4) : List Rw := match s.ps[q.1]? with
  | some (p, k) => (smv s q.1 p q.2).map (rowOf1 st q.1 k)
  | none => []
def mvs (s : Su) (st : List Si4) : List Rw := (idx 0 st).flatMap (rows1 s st)
theorem nr_St (l : List Si4) : nr (dSt l) = true := by simp [dSt, nr, nrs_map dSi (fun _ => rfl)]
theorem nr_Rw (v : Rw) : nr (dRw v) = true := by
  obtain ⟨e, x, o⟩ := v
  cases e <;> cases o <;> simp [dRw, nr, nrs, nr_St, dEv, dO, dN]
def St.Ok (s : Su) (st : List Si4) : Prop := st.length = s.ps.length ∧ ∀ x ∈ st, x.Ok s
theorem smv_len (s : Su) (ok : s.Ok) (m : Nat) (p : Pl) (x : Si4) (xo : x.Ok s) : (smv s m p x).length ≤ 5 := by
  have := rdg_len s ok x xo
  simp [smv]; omega
theorem at_all_loop (s : Su) (ok : s.Ok) (st : List Si4) (so : St.Ok s st) (m : Nat) (x : Si4) (p : Pl) (k : Int) (hm : s.ps[m]? = some (p, k)) (hx : st[m]? = some x) (acc : List D) (hB : acc.length + (smv s m p x).length ≤ 1000) :
    forGo (.tu [.n 5, .n 6, .n 7]) (semSs [.s (Sm.asg (.n 8) (Xp.ite (Xt.cmp .Is (Xo.v 7) ((Xp.c .non)).o) (Xp.c .non) (Xp.tup [(Xp.ix (Xo.v 7) ((Xp.c (.int 0))).o), (Xp.ix ((Xp.prop 1 "marks" F_Setup_marks (Xp.v 0))).o (Xo.v 3)), (Xp.ix (Xo.v 7) ((Xp.c (.int 1))).o)]))),
       .s (Sm.app 2 (Xp.tup [(Xp.v 5), (Xp.tupS [.inr ((Xp.sl (Xo.v 1) none (some (Xp.v 3)))).o, .inl (Xp.v 6), .inr ((Xp.sl (Xo.v 1) (some (Xp.bin .Add (Xo.v 3) ((Xp.c (.int 1))).o)) none)).o]), (Xp.v 8)])), .kill [5, 6, 7, 8]]) ((smv s m p x).map dMv)
      [.pl (dSu s), .pl (dSt st), .ow (.lst acc), .pl (.int m), .pl (dSi x), .un, .un, .un, .un] [] = .nx [.pl (dSu s), .pl (dSt st), .ow (.lst (acc ++ (smv s m p x).map fun v => dRw (rowOf1 st m k v))), .pl (.int m), .pl (dSi x), .un, .un, .un, .un] [] := by
  have key := for_apps (t := .tu [.n 5, .n 6, .n 7]) (bd := semSs [.s (Sm.asg (.n 8) (Xp.ite (Xt.cmp .Is (Xo.v 7) ((Xp.c .non)).o) (Xp.c .non) (Xp.tup [(Xp.ix (Xo.v 7) ((Xp.c (.int 0))).o), (Xp.ix ((Xp.prop 1 "marks" F_Setup_marks (Xp.v 0))).o (Xo.v 3)), (Xp.ix (Xo.v 7) ((Xp.c (.int 1))).o)]))),
       .s (Sm.app 2 (Xp.tup [(Xp.v 5), (Xp.tupS [.inr ((Xp.sl (Xo.v 1) none (some (Xp.v 3)))).o, .inl (Xp.v 6), .inr ((Xp.sl (Xo.v 1) (some (Xp.bin .Add (Xo.v 3) ((Xp.c (.int 1))).o)) none)).o]), (Xp.v 8)])), .kill [5, 6, 7, 8]]) (f := dMv) (g := fun v => [dRw (rowOf1 st m k v)]) (R := fun acc => [.pl (dSu s), .pl (dSt st), .ow (.lst acc), .pl (.int m), .pl (dSi x), .un, .un, .un, .un]) (h := []) (B := 1000) (smv s m p x) acc (by rw [flat1]; simpa using hB) fun v _ acc hB => by
    obtain ⟨e, y, o⟩ := v
    simp at hB
    have hl : st.length ≤ 2 := by rw [so.1]; exact ok.l2
    refine ⟨_, rfl, ?_⟩
    cases o with
    | none =>
      simp [dO, isNonD, semS, semO, semA, on1, on2, slE, items, line, killR, dSt, binE, Tg.put, show acc.length < 16777216 by omega, cut_to, cut_succ, rowOf1, up, dRw]
      omega
    | some q =>
      simp [dO, isNonD, semS, semO, semA, on1, on2, slE, items, line, killR, dSt, binE, Tg.put, show acc.length < 16777216 by omega, cut_to, cut_succ, rowOf1, up, dRw, dP, ixE, at_marks s _ ok.l2, noX, mark_ix s hm, show min m st.length + (st.length - (m + 1) + 1) ≤ 16777216 by omega, dN]
  simpa [flat1] using key
theorem ev_dep (e : Evt) : dep 58 (dEv e) = true := by cases e <;> rfl
theorem ev_alike (a b : Evt) : PySem.W.alike (pd (dEv a)) (pd (dEv b)) = true := by cases a <;> cases b <;> rfl
theorem ev_sortB (e : Evt) : sortB (pd (dEv e)) = true := by cases e <;> rfl
theorem ev_sort {α : Type} (f : α → Evt) (l : List α) : sortOk (l.map fun v => dEv (f v)) = true := by
  unfold sortOk
  simp [ev_dep, ev_alike, ev_sortB]
/-- rows in order of their events -/
def evLe (a b : Evt) : Bool := PySem.W.dataLe false (fun p : D × D => pd p.2) (.non, dEv a) (.non, dEv b)
def srt (l : List Rw) : List Rw := l.mergeSort fun a b => evLe a.1 b.1
theorem sortBy_rows (l : List Rw) : sortByD (l.map dRw) (l.map fun v => dEv v.1) = (srt l).map dRw := by
  unfold sortByD srt
  have e : (l.map dRw).zip (l.map fun v => dEv v.1) = l.map fun v => (dRw v, dEv v.1) := by
    induction l with
    | nil => rfl
    | cons x l ih => simp [ih]
  rw [e, ← List.map_mergeSort (f := fun v : Rw => (dRw v, dEv v.1)) (l := l) (r := fun a b => evLe a.1 b.1) (s := PySem.W.dataLe false fun p : D × D => pd p.2) (fun a _ b _ => rfl), List.map_map]
  rfl
theorem keys_rows : ∀ l : List Rw, keysOf (fnF 1 1 ir_first_of) (l.map dRw) = some (l.map fun v => dEv v.1)
  | [] => rfl
  | v :: l => by
    have h1 : pureOf (fnF 1 1 ir_first_of) [dRw v] [] = .ok (dEv v.1) [] := at_first _ _ [] (nr_Rw v)
    simp [keysOf, h1, keys_rows l]
theorem idx_len : ∀ (k : Nat) (l : List Si4), (idx k l).length = l.length
  | _, [] => rfl
  | k, x :: l => by simp [idx, idx_len (k + 1) l]
theorem rows_len (s : Su) (ok : s.Ok) (st : List Si4) (so : St.Ok s st) (q : Nat × Si4) (hq : q ∈ idx 0 st) : (rows1 s st q).length ≤ 5 := by
  unfold rows1
  obtain ⟨_, h2⟩ := idx_get hq
  split
  · rw [List.length_map]
    exact smv_len s ok _ _ _ (so.2 _ (List.mem_of_getElem? h2))
  · simp
theorem flat_len {α β : Type} (g : α → List β) (B : Nat) : ∀ l : List α, (∀ x ∈ l, (g x).length ≤ B) → (l.flatMap g).length ≤ B * l.length
  | [], _ => by simp
  | x :: l, h => by
    have h1 := h x List.mem_cons_self
    have h2 := flat_len g B l fun y hy => h y (List.mem_cons_of_mem _ hy)
    simp only [List.flatMap_cons, List.length_append, List.length_cons, Nat.mul_add, Nat.mul_one]
    omega
theorem mvs_len (s : Su) (ok : s.Ok) (st : List Si4) (so : St.Ok s st) : (mvs s st).length ≤ 10 := by
  have := flat_len (rows1 s st) 5 (idx 0 st) fun q hq => rows_len s ok st so q hq
  rw [idx_len] at this
  have h1 := so.1
  have h2 := ok.l2
  unfold mvs
  omega
theorem at_all (s : Su) (ok : s.Ok) (st : List Si4) (so : St.Ok s st) (h : Hh) : F_all_moves [dSu s, dSt st] h = .ok (.lst ((srt (mvs s st)).map dRw)) h := by
  have hlen := mvs_len s ok st so
  refine (pure_of (h' := []) (by simp [nrs, nr_Su, nr_St]) rfl (by simp [nr, nrs_map _ nr_Rw]) ?_)
  have key := for_apps (t := .tu [.n 3, .n 4]) (bd := semSs [.s (Sm.for_ (.tu [(.n 5), (.n 6), (.n 7)]) (Ib.seq (Xp.call "single_moves" F_single_moves [(Xp.v 0), (Xp.v 3), (Xp.v 4)]))
      [.s (Sm.asg (.n 8) (Xp.ite (Xt.cmp .Is (Xo.v 7) ((Xp.c .non)).o) (Xp.c .non) (Xp.tup [(Xp.ix (Xo.v 7) ((Xp.c (.int 0))).o), (Xp.ix ((Xp.prop 1 "marks" F_Setup_marks (Xp.v 0))).o (Xo.v 3)), (Xp.ix (Xo.v 7) ((Xp.c (.int 1))).o)]))),
       .s (Sm.app 2 (Xp.tup [(Xp.v 5), (Xp.tupS [.inr ((Xp.sl (Xo.v 1) none (some (Xp.v 3)))).o, .inl (Xp.v 6), .inr ((Xp.sl (Xo.v 1) (some (Xp.bin .Add (Xo.v 3) ((Xp.c (.int 1))).o)) none)).o]), (Xp.v 8)])), .kill [5, 6, 7, 8]]), .kill [3, 4, 5, 6, 7, 8]]) (f := fun q : Nat × Si4 => .tup [.int q.1, dSi q.2]) (g := fun q => (rows1 s st q).map dRw) (R := fun acc => [.pl (dSu s), .pl (dSt st), .ow (.lst acc), .un, .un, .un, .un, .un, .un]) (h := []) (B := 100) (idx 0 st) [] (by
        have := flat_len (fun q => (rows1 s st q).map dRw) 5 (idx 0 st) fun q hq => by rw [List.length_map]; exact rows_len s ok st so q hq
        rw [idx_len] at this
        have h1 := so.1
        have h2 := ok.l2
        simp only [List.length_nil, Nat.zero_add]
        omega) fun q hq acc hB => by
    obtain ⟨m, x⟩ := q
    obtain ⟨_, hx⟩ := idx_get hq
    have hm : m < s.ps.length := by
      have := (List.getElem?_eq_some_iff.mp hx).1
      rw [so.1] at this
      simpa using this
    obtain ⟨⟨p, k⟩, hp⟩ : ∃ pk, s.ps[m]? = some pk := ⟨_, List.getElem?_eq_getElem hm⟩
    have xo := so.2 _ (List.mem_of_getElem? hx)
    have hr : rows1 s st (m, x) = (smv s m p x).map (rowOf1 st m k) := by simp [rows1, hp]
    have h5 := smv_len s ok m p x xo
    refine ⟨_, rfl, ?_⟩
    rw [hr] at hB ⊢
    simp only [List.length_map] at hB
    have lp := at_all_loop s ok st so m x p k hp (by simpa using hx) acc (by omega)
    simp [semA, at_moves1 s ok _ m p k hp x xo, items, lp, killR]
  have fm : (idx 0 st).flatMap (fun q => (rows1 s st q).map dRw) = (mvs s st).map dRw := by unfold mvs; rw [List.map_flatMap]
  unfold ir_all_moves
  simp only [dSt] at key
  simp [startR, semA, line, dSt, enum_idx, items, key, fm, sortKR, keys_rows, ev_sort (fun v : Rw => v.1), sortBy_rows, show (mvs s st).length ≤ 16777216 by omega]
end Ev

set_option Elab.async false
set_option linter.all false
set_option maxRecDepth 100000
namespace Ev
open PySem L2 Pf
theorem nr_Ev (e : Evt) : nr (dEv e) = true := by cases e <;> rfl
theorem at_is_word (e : Evt) (h : Hh) : F_is_word [dEv e] h = .ok (.bl true) h := by
  refine pure_of (h' := []) (by simp [nrs, nr_Ev]) rfl rfl ?_
  cases e <;> rfl
def Evt.m : Evt → Nat | .clock m _ => m | .give m => m | .restart m => m
theorem beq_nat (a b : Nat) : ((a : Int) == (b : Int)) = decide (a = b) := by by_cases h : a = b <;> simp [h]; omega
theorem beq_int (a b : Int) : (a == b) = decide (a = b) := by by_cases h : a = b <;> simp [h]
@[simp] theorem eq_Ev (a b : Evt) : cmpE .Eq (dEv a) (dEv b) = some (decide (a = b)) := by
  cases a <;> cases b <;> simp [cmpE, eqE, dEv, dep, pd, PyData.eqv, sCL, sGI, sRE]
  · simp [pds, pd, PyData.eqvAll, PyData.eqv, beq_nat, beq_int, Int.natCast_inj]
  · rfl
  · rfl
  · rfl
  · simp [pds, pd, PyData.eqvAll, PyData.eqv, beq_nat]
  · rfl
  · rfl
  · rfl
  · simp [pds, pd, PyData.eqvAll, PyData.eqv, beq_nat]
def Evt.s : Evt → List Nat | .clock _ _ => sCL | .give _ => sGI | .restart _ => sRE
@[simp] theorem vw_Ev (e : Evt) (h : Hh) : vw h (dEv e) = some (dEv e) := by cases e <;> rfl
@[simp] theorem ix_Ev0 (e : Evt) : ixE (dEv e) (.int 0) = some (.str e.s) := by cases e <;> rfl
@[simp] theorem ix_Ev1 (e : Evt) : ixE (dEv e) (.int 1) = some (.int e.m) := by cases e <;> rfl
@[simp] theorem ix_Ev2 (m : Nat) (r : Int) : ixE (dEv (.clock m r)) (.int 2) = some (.int r) := rfl
def Evt.isC : Evt → Bool | .clock _ _ => true | _ => false
@[simp] theorem eq_clock (e : Evt) : cmpE .Eq (.str e.s) (.str [99, 108, 111, 99, 107]) = some e.isC := by cases e <;> rfl
@[simp] theorem vw_St (l : List Si4) (h : Hh) : vw h (dSt l) = some (dSt l) := rfl
theorem for_find {R : Rho} {h : Hh} {ev : Evt} {t : Tg} {bd : Rho → Hh → Out} (hb : ∀ v : Rw, ∃ r2, t.put (dRw v) R = some r2 ∧ bd r2 h = if v.1 = ev then .rt (.tup [dSt v.2.1, dO (v.2.2.map dN)]) h else .nx R h) : ∀ l : List Rw, forGo t bd (l.map dRw) R h = match l.find? (fun v => decide (v.1 = ev)) with
    | some v => .rt (.tup [dSt v.2.1, dO (v.2.2.map dN)]) h
    | none => .nx R h
  | [] => rfl
  | v :: l => by
    obtain ⟨r2, h1, h2⟩ := hb v
    by_cases q : v.1 = ev
    · simp [forGo, h1, h2, q]
    · simp [forGo, h1, h2, q, for_find hb l]
def mv (s : Su) (st : List Si4) (ev : Evt) : Option (List Si4 × Option (Int × Int × Int)) := ((srt (mvs s st)).find? fun v => decide (v.1 = ev)).map fun v => v.2
theorem at_move (s : Su) (ok : s.Ok) (st : List Si4) (so : St.Ok s st) (ev : Evt) (hm : ev.m < s.ps.length) (hr : ∀ m r, ev = .clock m r → 0 ≤ r ∧ r ≤ s.top) (y : List Si4) (o : Option (Int × Int × Int)) (hv : mv s st ev = some (y, o)) (h : Hh) : F_move [dSu s, dSt st, dEv ev] h = .ok (.tup [dSt y, dO (o.map dN)]) h := by
  have ha := at_all s ok st so []
  have key := for_find (R := [.pl (dSu s), .pl (dSt st), .pl (dEv ev), .un, .un, .un]) (h := []) (ev := ev) (t := .tu [.n 3, .n 4, .n 5]) (bd := semSs [.s (Sm.ife (Xt.cmp .Eq (Xo.v 3) (Xo.v 2))
      [.s (Sm.ret (Xp.tup [(Xp.v 4), (Xp.v 5)]))]
      []), .kill [3, 4, 5]]) (fun v => ⟨_, rfl, by
        by_cases q : v.1 = ev <;> simp [on1, on2, semA, line, killR, q]⟩) (srt (mvs s st))
  refine pure_of (h' := []) (by simp [nrs, nr_Su, nr_St, nr_Ev]) rfl (by cases o <;> simp [nr, nrs, nr_St, dO, dN]) ?_
  have w := at_is_word ev []
  have hm' : (0 : Int) ≤ (ev.m : Int) ∧ (ev.m : Int) ≤ (s.ps.length : Int) - 1 := by omega
  unfold mv at hv
  obtain ⟨v, hv1, hv2⟩ := Option.map_eq_some_iff.mp hv
  rw [hv1] at key
  dsimp only at key
  have ol := ok.l2
  have hc : (ev.isC = false) ∨ ∃ m r, ev = .clock m r := by cases ev <;> simp [Evt.isC]
  unfold ir_move
  rcases hc with hc | ⟨m, r, rfl⟩
  · simp [startR, semA, w, at_len, truE, on1, on2, binE, lenR, at_is_number, hm', hc, ha, items, key, show (s.ps.length : Int) < 9223372036854775808 by omega]
    rw [hv2]; exact ⟨rfl, rfl⟩
  · have := hr m r rfl
    simp [startR, semA, w, at_len, truE, on1, on2, binE, lenR, at_is_number, hm', Evt.isC, this, ha, items, key, show (s.ps.length : Int) < 9223372036854775808 by omega, at_top, noX]
    rw [hv2]; exact ⟨rfl, rfl⟩
end Ev

set_option Elab.async false
set_option linter.all false
set_option maxRecDepth 100000
namespace Ev
open PySem L2 Pf
def fresh : Si4 := ⟨0, -1, 0, -1⟩
def beg (s : Su) : List Si4 := List.replicate s.ps.length fresh
theorem at_begin (s : Su) (ok : s.Ok) (h : Hh) : F_begin [dSu s] h = .ok (dSt (beg s)) h := by
  refine pure_of (h' := []) (by simp [nrs, nr_Su]) rfl (nr_St _) ?_
  have h1 := ok.l1
  have h2 := ok.l2
  have e : s.ps.length = 1 ∨ s.ps.length = 2 := by omega
  unfold ir_begin beg
  rcases e with e | e <;> simp [startR, semA, line, at_len, lenR, on1, on2, mulE, e] <;> rfl
structure Full (s : Su) (m : Nat) (x : Si4) : Prop where
  ok : x.Ok s
  c : x.b = -1 → x.c = 0
  d : ∀ p k, s.ps[m]? = some (p, k) → p.r = .forget → x.d = -1
@[simp] theorem vw_Si (x : Si4) (h : Hh) : vw h (dSi x) = some (dSi x) := rfl
theorem at_is_single (s : Su) (so : s.Ok) (m : Nat) (p : Pl) (k : Int) (hm : s.ps[m]? = some (p, k)) (x : Si4) (f : Full s m x) (h : Hh) : F_is_single [dSu s, .int m, dSi x] h = .ok (.bl true) h := by
  obtain ⟨⟨a1, a2, b1, b2, c1, c2, d1, d2⟩, f1, f2⟩ := f
  have f2 := f2 p k hm
  obtain ⟨a, b, c, d⟩ := x
  dsimp only at *
  refine pure_of (h' := []) (by simp [nrs, nr_Su, nr, dSi]) rfl rfl ?_
  unfold ir_is_single dSi
  have z : ¬ (b = -1 ∧ 0 < c) := fun ⟨z1, z2⟩ => by have := f1 z1; omega
  simp [startR, semA, semB, line, on1, on2, onL, vws, biE, lenE, items, isE, truE, Tg.put, Tg.puts, at_is_number, at_top, at_limit, noX, a1, a2, b1, b2, c1, c2, d1, d2, cmp_eq_int, cmp_ne_int, z, ofB, ixE, at_plans s _ so.l2, plan_ix s hm, at_on_restart]
  by_cases q1 : b = -1 <;> by_cases q2 : d = -1 <;> by_cases q3 : p.r = .forget <;> simp_all <;> omega
def SFull (s : Su) (st : List Si4) : Prop := st.length = s.ps.length ∧ ∀ (m : Nat) (x : Si4), st[m]? = some x → Full s m x
theorem SFull.ok {s : Su} {st : List Si4} (f : SFull s st) : St.Ok s st := ⟨f.1, fun x hx => by
  obtain ⟨m, hm⟩ := List.mem_iff_getElem?.mp hx
  exact (f.2 m x hm).ok⟩
theorem bls_true {α : Type} : ∀ l : List α, blsOf (l.map fun _ => D.bl true) = some (l.map fun _ => true)
  | [] => rfl
  | x :: l => by simp [blsOf, bls_true l]
theorem at_check (s : Su) (so : s.Ok) (st : List Si4) (f : SFull s st) (h : Hh) : F_check_standing [dSu s, dSt st] h = .ok .non h := by
  have key := lc_map (t := .tu [.n 3, .n 4]) (b := semT none) (e := (Xp.call "is_single" F_is_single [(Xp.v 0), (Xp.v 3), (Xp.v 4)]).sem) (r := [.pl (dSu s), .pl (dSt st), .pl (.bl true), .un, .un]) (h := []) (f := fun q : Nat × Si4 => .tup [.int q.1, dSi q.2]) (g := fun _ => D.bl true) (idx 0 st) fun q hq => by
    obtain ⟨m, x⟩ := q
    obtain ⟨_, hx⟩ := idx_get hq
    have hx : st[m]? = some x := by simpa using hx
    have hm : m < s.ps.length := by
      have := (List.getElem?_eq_some_iff.mp hx).1
      rw [f.1] at this
      exact this
    obtain ⟨⟨p, k⟩, hp⟩ : ∃ pk, s.ps[m]? = some pk := ⟨_, List.getElem?_eq_getElem hm⟩
    exact ⟨_, rfl, rfl, by simp [semA, at_is_single s so m p k hp x (f.2 m x hx)]⟩
  have hl := so.l2
  have h1 := f.1
  have h2 : (enumD 0 (st.map dSi)).length ≤ 16777216 := by rw [enumD_len, List.length_map]; omega
  refine pure_of (h' := []) (by simp [nrs, nr_Su, nr_St]) rfl rfl ?_
  unfold ir_check_standing
  rw [enum_idx] at h2
  simp only [dSt] at key
  simp [startR, semA, semB, line, on1, on2, onL, vws, biE, lenE, items, isE, truE, Tg.put, Tg.puts, at_len, lenR, ofB, dSt, h1, cmp_eq_int, lcSem, enum_idx, idx_len, wipeR, show (s.ps.length : Int) < 9223372036854775808 by omega, show s.ps.length ≤ 16777216 by omega, key, bls_true]
end Ev

set_option Elab.async false
set_option linter.all false
set_option maxRecDepth 100000
namespace Ev
open PySem L2 Pf
abbrev Nm := Option (Int × Int × Int)
def dNm (o : Nm) : D := dO (o.map dN)
theorem nr_Nm (o : Nm) : nr (dNm o) = true := by cases o <;> rfl
/-- an event that can be asked for -/
structure Can (s : Su) (st : List Si4) (ev : Evt) (y : List Si4) (o : Nm) : Prop where
  m : ev.m < s.ps.length
  r : ∀ m r, ev = .clock m r → 0 ≤ r ∧ r ≤ s.top
  v : mv s st ev = some (y, o)
theorem at_after (s : Su) (ok : s.Ok) (st : List Si4) (f : SFull s st) (ev : Evt) (y : List Si4) (o : Nm) (c : Can s st ev y o) (h : Hh) : F_after [dSu s, dSt st, dEv ev] h = .ok (.tup [dSt y, dNm o]) h := by
  refine pure_of (h' := []) (by simp [nrs, nr_Su, nr_St, nr_Ev]) rfl (by simp [nr, nrs, nr_St, nr_Nm]) ?_
  unfold ir_after
  simp [startR, semA, at_check s ok st f, at_move s ok st f.ok ev c.m c.r y o c.v, dNm]
def Evt.isG : Evt → Bool | .give _ => true | _ => false
@[simp] theorem eq_give (e : Evt) : cmpE .Eq (.str e.s) (.str [103, 105, 118, 101]) = some e.isG := by cases e <;> rfl
inductive Runs (s : Su) : List Si4 → List Nm → List Evt → List Si4 → List Nm → Prop
  | nil {st : List Si4} {t : List Nm} : Runs s st t [] st t
  | cons {st y z : List Si4} {t t' : List Nm} {e : Evt} {o : Nm} {l : List Evt} : St.Ok s st → Can s st e y o → Runs s y (if e.isG then t ++ [o] else t) l z t' → Runs s st t (e :: l) z t'
theorem run_loop (s : Su) (ok : s.Ok) (d : D) {st z : List Si4} {t t' : List Nm} {l : List Evt} (r : Runs s st t l z t') : ∀ k, t.length + l.length ≤ 1000 → forGo (.tu [.n 4, .n 5]) (semSs [.s (Sm.tryN
      [.s (Sm.asg (.tu [(.n 2), (.n 7)]) (Xp.call "move" F_move [(Xp.v 0), (Xp.v 2), (Xp.v 5)]))]),
     .s (Sm.ife (Xt.cmp .Eq ((Xp.ix (Xo.v 5) ((Xp.c (.int 0))).o)).o ((Xp.g "GIVE" (.str [103, 105, 118, 101]))).o)
      [.s (Sm.app 3 (Xp.v 7))]
      []), .kill [4, 5, 7]]) (enumD k (l.map dEv)) [.pl (dSu s), .pl d, .pl (dSt st), .ow (.lst (t.map dNm)), .un, .un, .un, .un] [] = .nx [.pl (dSu s), .pl d, .pl (dSt z), .ow (.lst (t'.map dNm)), .un, .un, .un, .un] [] := by
  induction r with
  | nil => intro k _; rfl
  | @cons st y z t t' e o l so c r ih =>
    intro k hB
    simp only [List.length_cons] at hB
    have hB2 : (if e.isG then t ++ [o] else t).length + l.length ≤ 1000 := by split <;> (try simp) <;> omega
    have ih := ih (k + 1) hB2
    simp only [List.map_cons, enumD]
    rw [forGo]
    simp only [Tg.put, Tg.puts]
    have hm := at_move s ok st so e c.m c.r y o c.v []
    cases q : e.isG with
    | true =>
      rw [q] at ih
      simp [semA, hm, Tg.put, Tg.puts, on1, on2, q, line, killR, show t.length < 16777216 by omega]
      simpa [dNm] using ih
    | false =>
      rw [q] at ih
      simp [semA, hm, Tg.put, Tg.puts, on1, on2, q, line, killR]
      simpa [dNm] using ih
theorem at_run (s : Su) (ok : s.Ok) (l : List Evt) (hl : l.length ≤ 1000) (z : List Si4) (t : List Nm) (r : Runs s (beg s) [] l z t) (h : Hh) : F_run [dSu s, .lst (l.map dEv)] h = .ok (.tup [dSt z, .lst (t.map dNm)]) h := by
  refine pure_of (h' := []) (by simp [nrs, nr_Su, nr, nrs_map _ nr_Ev]) rfl (by simp [nr, nrs, nr_St, nrs_map _ nr_Nm]) ?_
  have key := run_loop s ok (.lst (l.map dEv)) r 0 (by simpa using hl)
  unfold ir_run
  simp at key
  simp [startR, semA, semX, Xa.sem, setsX, slOf, at_begin s ok, items, key, frzR, line]
end Ev

set_option Elab.async false
set_option linter.all false
set_option maxRecDepth 100000
namespace Ev
open PySem L2 Pf
def mkRow (ns : List Int) (i g r : Int) : D := .lst [.lsc (ns.map .int), .int i, .int g, .int r]
structure RowP (ns : List Int) (i g r : Int) : Prop where
  i0 : 0 ≤ i
  g0 : 0 ≤ g
  g1 : g < 2147483647
  r0 : 0 ≤ r
  nl : ns.length ≤ 1000
def Row (o : D) : Prop := ∃ ns i g r, o = mkRow ns i g r ∧ RowP ns i g r
theorem nr_row (ns : List Int) (i g r : Int) : nr (mkRow ns i g r) = true := by
  simp [mkRow, nr, nrs, nrs_map D.int (fun _ => rfl)]
theorem Row.nr {o : D} (h : Row o) : nr o = true := by
  obtain ⟨ns, i, g, r, rfl, _⟩ := h
  exact nr_row ns i g r
theorem at_taken (m : Int) (hm : 0 < m) (hm2 : m < 1000000) (o : D) (ro : Row o) : ∃ (v : Nat) (o' : D), Row o' ∧ (v : Int) < m ∧ F__law_taken [.ref 0, .int m] [o] = .ok (.int v) [o'] := by
  obtain ⟨ns, i, g, r, rfl, i0, g0, g1, r0, nl⟩ := ro
  have md : ∀ x : Int, ∃ v : Nat, (v : Int) < m ∧ x % m = v := fun x => ⟨(x % m).toNat, by have := Int.emod_lt_of_pos x hm; have := Int.emod_nonneg x (show m ≠ 0 by omega); omega, by have := Int.emod_nonneg x (show m ≠ 0 by omega); omega⟩
  by_cases h1 : 0 < r
  · obtain ⟨v, v1, v2⟩ := md r
    refine ⟨v, mkRow ns i g (r / m), ⟨ns, i, g, _, rfl, i0, g0, g1, Int.ediv_nonneg r0 (by omega), nl⟩, v1, ?_⟩
    refine (row_of (h := [mkRow ns i g r]) (i := 0) (h' := []) rfl (nr_row ..) rfl rfl rfl (nr_row _ _ _ _) ?_)
    unfold ir__law_taken mkRow
    simp [startR, on1, on2, onL, semB, vws, biE, ixE, items, binE, h1, hm, show m < 18446744073709551616 by omega, v2, ixNat, Tg.put]
  · by_cases h2 : (ns.length : Int) < i + 1
    · obtain ⟨v, v1, v2⟩ := md (((g * 48271 + 11) % 2147483647) / 7)
      refine ⟨v, mkRow ns (i + 1) ((g * 48271 + 11) % 2147483647) r, ⟨ns, _, _, r, rfl, by omega, by omega, by omega, r0, nl⟩, v1, ?_⟩
      refine (row_of (h := [mkRow ns i g r]) (i := 0) (h' := []) rfl (nr_row ..) rfl rfl rfl (nr_row _ _ _ _) ?_)
      unfold ir__law_taken mkRow
      simp [startR, on1, on2, onL, semB, vws, biE, lenE, ixE, items, binE, h1, hm, h2, mulOk, v2, ixNat, Tg.put, killR]
    · have hi : i.toNat < ns.length := by omega
      obtain ⟨v, v1, v2⟩ := md ns[i.toNat]
      refine ⟨v, mkRow ns (i + 1) ((g * 48271 + ns[i.toNat] + 11) % 2147483647) (if 1000000000000000000 ≤ ns[i.toNat] then ns[i.toNat] / m else 0), ⟨ns, _, _, _, rfl, by omega, by omega, by omega, ?_, nl⟩, v1, ?_⟩
      · split
        · exact Int.ediv_nonneg (by omega) (by omega)
        · omega
      refine (row_of (h := [mkRow ns i g r]) (i := 0) (h' := []) rfl (nr_row ..) rfl rfl rfl (nr_row _ _ _ _) ?_)
      have hx : atI (ns.map D.int) i = some (.int ns[i.toNat]) := by
        have := atI_nat (ns.map D.int) i.toNat
        rw [show ((i.toNat : Nat) : Int) = i by omega] at this
        rw [this, List.getElem?_map, List.getElem?_eq_getElem hi]; rfl
      unfold ir__law_taken mkRow
      have e1 : i + 1 - 1 = i := by omega
      by_cases h3 : 1000000000000000000 ≤ ns[i.toNat]
      · simp [startR, on1, on2, onL, semB, vws, biE, lenE, ixE, items, binE, h1, hm, h2, mulOk, powOk, v2, ixNat, Tg.put, killR, e1, hx, h3, show m < 18446744073709551616 by omega]
      · simp [startR, on1, on2, onL, semB, vws, biE, lenE, ixE, items, binE, h1, hm, h2, mulOk, powOk, v2, ixNat, Tg.put, killR, e1, hx, h3]
end Ev

set_option Elab.async false
set_option linter.all false
set_option maxRecDepth 100000
namespace Ev
open PySem L2 Pf
theorem nrs_get : ∀ {l : List D} {i : Nat} {d : D}, nrs l = true → l[i]? = some d → nr d = true
  | [], _, _, _, e => by simp at e
  | a :: l, 0, _, h, e => by simp [nrs] at h e; subst e; exact h.1
  | a :: l, i + 1, _, h, e => by simp [nrs] at h e; exact nrs_get h.2 e
theorem at_pick (l : List D) (hl : 0 < l.length) (hl2 : l.length < 1000000) (hn : nrs l = true) (o : D) (ro : Row o) : ∃ (i : Nat) (d : D) (o' : D), Row o' ∧ l[i]? = some d ∧ F__law_pick [.ref 0, .lst l] [o] = .ok d [o'] := by
  obtain ⟨v, o', r', hv, e⟩ := at_taken l.length (by omega) (by omega) o ro
  have hv' : v < l.length := by omega
  refine ⟨v, l[v], o', r', List.getElem?_eq_getElem hv', ?_⟩
  refine (row_of (h := [o]) (i := 0) (h' := []) rfl ro.nr (by simp [nrs, nr, hn]) rfl (nrs_get hn (List.getElem?_eq_getElem hv')) r'.nr ?_)
  unfold ir__law_pick
  have hx : atI l (v : Int) = some l[v] := by rw [atI_nat, List.getElem?_eq_getElem hv']
  simp [startR, on1, on2, onL, semA, semB, vws, biE, lenE, ixE, items, e, hx]
def dW (p : Pl) : D := .tup [.str p.b.s, .str p.f.s, .str p.r.s]
theorem at_words (o : D) (ro : Row o) : ∃ (p : Pl) (o' : D), Row o' ∧ F__law_words [.ref 0] [o] = .ok (dW p) [o'] := by
  obtain ⟨i1, d1, o1, r1, g1, e1⟩ := at_pick [.str [104, 111, 108, 100], .str [114, 101, 102, 117, 115, 101], .str [116, 114, 117, 115, 116]] (by decide) (by decide) rfl o ro
  obtain ⟨i2, d2, o2, r2, g2, e2⟩ := at_pick [.str [98, 111, 114, 114, 111, 119], .str [114, 101, 102, 117, 115, 101], .str [119, 114, 97, 112]] (by decide) (by decide) rfl o1 r1
  obtain ⟨i3, d3, o3, r3, g3, e3⟩ := at_pick [.str [102, 111, 114, 103, 101, 116], .str [115, 97, 118, 101, 100], .str [119, 97, 105, 116]] (by decide) (by decide) rfl o2 r2
  obtain ⟨b, rfl⟩ : ∃ b : Wb, d1 = .str b.s := by
    match i1, g1 with
    | 0, g => exact ⟨.hold, by cases g; rfl⟩
    | 1, g => exact ⟨.refuse, by cases g; rfl⟩
    | 2, g => exact ⟨.trust, by cases g; rfl⟩
    | n + 3, g => simp at g
  obtain ⟨f, rfl⟩ : ∃ f : Wf, d2 = .str f.s := by
    match i2, g2 with
    | 0, g => exact ⟨.borrow, by cases g; rfl⟩
    | 1, g => exact ⟨.refuse, by cases g; rfl⟩
    | 2, g => exact ⟨.wrap, by cases g; rfl⟩
    | n + 3, g => simp at g
  obtain ⟨r, rfl⟩ : ∃ r : Wr, d3 = .str r.s := by
    match i3, g3 with
    | 0, g => exact ⟨.forget, by cases g; rfl⟩
    | 1, g => exact ⟨.saved, by cases g; rfl⟩
    | 2, g => exact ⟨.wait, by cases g; rfl⟩
    | n + 3, g => simp at g
  refine ⟨⟨b, f, r⟩, o3, r3, ?_⟩
  refine (row_of (h := [o]) (i := 0) (h' := []) rfl ro.nr rfl rfl rfl r3.nr ?_)
  unfold ir__law_words dW
  simp [startR, semA, line, e1, e2, e3, Tg.put]
def dSc (s : Su) : D := .tup [.tup (s.ps.map fun x => dW x.1), .tup (s.ps.map fun x => .int x.2), .int s.top, .int s.limit, .int s.back, .int s.ahead]
theorem nr_Sc (s : Su) : nr (dSc s) = true := by
  simp [dSc, nr, nrs, nrs_map (fun x : Pl × Int => dW x.1) (fun _ => rfl), nrs_map (fun x : Pl × Int => D.int x.2) (fun _ => rfl)]
theorem at_mark (o : D) (ro : Row o) : ∃ (k : Int) (o' : D), Row o' ∧ (0 ≤ k ∧ k ≤ 3) ∧ F__law_pick [.ref 0, .lst [.int 0, .int 0, .int 3]] [o] = .ok (.int k) [o'] := by
  obtain ⟨i, d, o1, r1, g, e⟩ := at_pick [.int 0, .int 0, .int 3] (by decide) (by decide) rfl o ro
  match i, g with
  | 0, g => cases g; exact ⟨0, o1, r1, by omega, e⟩
  | 1, g => cases g; exact ⟨0, o1, r1, by omega, e⟩
  | 2, g => cases g; exact ⟨3, o1, r1, by omega, e⟩
  | n + 3, g => simp at g
/-- what a drawn scheme is like -/
structure Sch (s : Su) : Prop where
  ok : s.Ok
  marks : ∀ x ∈ s.ps, 0 ≤ x.2 ∧ x.2 ≤ 3
theorem at_scheme (o : D) (ro : Row o) : ∃ (s : Su) (o' : D), Row o' ∧ Sch s ∧ F__law_scheme [.ref 0, .int 2] [o] = .ok (dSc s) [o'] := by
  obtain ⟨v, o1, r1, hv, e1⟩ := at_taken 2 (by omega) (by omega) o ro
  have hv : v = 0 ∨ v = 1 := by omega
  obtain ⟨p1, o2, r2, e2⟩ := at_words o1 r1
  rcases hv with rfl | rfl
  · obtain ⟨k1, o3, r3, hk1, e3⟩ := at_mark o2 r2
    obtain ⟨t, o4, r4, ht, e4⟩ := at_taken 2 (by omega) (by omega) o3 r3
    obtain ⟨l, o5, r5, hl, e5⟩ := at_taken 2 (by omega) (by omega) o4 r4
    obtain ⟨b, o6, r6, hb, e6⟩ := at_taken 3 (by omega) (by omega) o5 r5
    obtain ⟨a, o7, r7, ha, e7⟩ := at_taken 2 (by omega) (by omega) o6 r6
    refine ⟨⟨[(p1, k1)], 1 + t, l, b, 1 + a⟩, o7, r7, ⟨⟨by simp, by simp, by simp; omega, by simp; omega, by simp, by simp; omega, by simp, by simp; omega, by simp; omega, by simp; omega⟩, by simpa using hk1⟩, ?_⟩
    refine (row_of (h := [o]) (i := 0) (h' := []) rfl ro.nr rfl rfl (nr_Sc _) r7.nr ?_)
    unfold ir__law_scheme dSc
    simp [startR, semA, semB, on1, on2, onL, vws, biE, items, line, e1, e2, e3, e4, e5, e6, e7, Tg.put, binE, lcSem, rngOk, wipeR, lcGo, semT, cmp_eq_int, List.range_succ]
  · obtain ⟨p2, o3, r3, e3⟩ := at_words o2 r2
    obtain ⟨k1, o4, r4, hk1, e4⟩ := at_mark o3 r3
    obtain ⟨k2, o5, r5, hk2, e5⟩ := at_mark o4 r4
    obtain ⟨b, o6, r6, hb, e6⟩ := at_taken 3 (by omega) (by omega) o5 r5
    obtain ⟨a, o7, r7, ha, e7⟩ := at_taken 2 (by omega) (by omega) o6 r6
    refine ⟨⟨[(p1, k1), (p2, k2)], 1, 0, b, 1 + a⟩, o7, r7, ⟨⟨by simp, by simp, by simp, by simp, by simp, by simp, by simp, by simp; omega, by simp; omega, by simp; omega⟩, by simpa using ⟨hk1, hk2⟩⟩, ?_⟩
    refine (row_of (h := [o]) (i := 0) (h' := []) rfl ro.nr rfl rfl (nr_Sc _) r7.nr ?_)
    unfold ir__law_scheme dSc
    simp [startR, semA, semB, on1, on2, onL, vws, biE, items, line, e1, e2, e3, e4, e5, e6, e7, Tg.put, binE, lcSem, rngOk, wipeR, lcGo, semT, cmp_eq_int, List.range_succ]
end Ev

set_option Elab.async false
set_option linter.all false
set_option maxRecDepth 100000
set_option maxHeartbeats 8000000
namespace Ev
open PySem L2 Pf
theorem at_plan (p : Pl) (h : Hh) : mkF 0 F_Plan___init__ [.str p.b.s, .str p.f.s, .str p.r.s] h = .ok (dPl p) h := by
  unfold mkF F_Plan___init__
  obtain ⟨b, f, r⟩ := p
  cases b <;> cases f <;> cases r <;> rfl
theorem at_ranges (s : Su) (ok : s.Ok) (h : Hh) : F_check_ranges [.tup [.tup [.str [116, 111, 112], .int s.top, .int 1, .int 2], .tup [.str [108, 105, 109, 105, 116], .int s.limit, .int 0, .int 1], .tup [.str [98, 97, 99, 107], .int s.back, .int 0, .int 2], .tup [.str [97, 104, 101, 97, 100], .int s.ahead, .int 1, .int 2]]] h = .ok .non h := by
  obtain ⟨o1, o2, o3, o4, o5, o6, o7, o8, o9, o10⟩ := ok
  refine pure_of (h' := []) rfl rfl rfl ?_
  unfold ir_check_ranges
  simp [startR, items, forGo, Tg.put, Tg.puts, semA, at_is_number, truE, on1, killR, o3, o4, o5, o6, o7, o8, o9, o10]
theorem at_mkS (s : Su) (sc : Sch s) (h : Hh) : mkF 1 F_Setup___init__ [.tup (s.ps.map fun x => dPl x.1), .tup (s.ps.map fun x => .int x.2), .int s.top, .int s.limit, .int s.back, .int s.ahead] h = .ok (dSu s) h := by
  have ok := sc.ok
  have hr := at_ranges s ok
  have key := lc_map (t := .n 7) (b := semT none) (e := (Xp.call "is_number" F_is_number [(Xp.v 7), (Xp.c (.int 0)), (Xp.g "MAX_MARK" (.int 3))]).sem) (r := [.pl (.ref 0), .pl (.tup (s.ps.map fun x => dPl x.1)), .pl (.tup (s.ps.map fun x => .int x.2)), .pl (.int s.top), .pl (.int s.limit), .pl (.int s.back), .pl (.int s.ahead), .un]) (h := [.ins 1 []]) (f := fun x : Pl × Int => D.int x.2) (g := fun _ => D.bl true) s.ps fun x hx => ⟨_, rfl, rfl, by simp [semA, at_is_number, sc.marks x hx]⟩
  have hz : zip2D (s.ps.map fun x => dPl x.1) (s.ps.map fun x => D.int x.2) = s.ps.map dMk := by
    induction s.ps with
    | nil => rfl
    | cons x l ih => simp [zip2D, ih, dMk]
  have h1 := ok.l1
  have h2 := ok.l2
  have e : fnF 8 7 ir_Setup___init__ (.ref 0 :: [.tup (s.ps.map fun x => dPl x.1), .tup (s.ps.map fun x => .int x.2), .int s.top, .int s.limit, .int s.back, .int s.ahead]) [.ins 1 []] = .ok .non [dSu s] := by
    rw [fnF_eq (m := 7) (by rfl)]
    unfold ir_Setup___init__
    simp [startR, semA, semB, onL, on1, on2, vws, biE, lenE, items, line, truE, lcSem, wipeR, key, bls_true, hr, tzipE, hz, putD, cmp_ne_int, chainS, show s.ps.length ≤ 1000 by omega, show s.ps.length ≤ 16777216 by omega, show (1 : Int) ≤ s.ps.length by omega, show (s.ps.length : Int) ≤ 2 by omega, ofB, toB, dSu]
  unfold mkF F_Setup___init__
  rw [e]
  simp [nrs, nr, nrs_pl, nrs_map (fun x : Pl × Int => D.int x.2) (fun _ => rfl), nr_Su]
theorem at_setup (s : Su) (sc : Sch s) (h : Hh) : F__law_setup [dSc s] h = .ok (dSu s) h := by
  have key := lc_map (t := .n 1) (b := semT none) (e := (Xp.mkF 0 F_Plan___init__ [(Xp.ix (Xo.v 1) ((Xp.c (.int 0))).o), (Xp.ix (Xo.v 1) ((Xp.c (.int 1))).o), (Xp.ix (Xo.v 1) ((Xp.c (.int 2))).o)]).sem) (r := [.pl (dSc s), .un]) (h := []) (f := fun x : Pl × Int => dW x.1) (g := fun x => dPl x.1) s.ps fun x _ => ⟨_, rfl, rfl, by simp [semA, on1, on2, ixE, items, dW, at_plan]⟩
  have h2 := sc.ok.l2
  refine pure_of (h' := []) (by simp [nrs, nr_Sc]) rfl (nr_Su s) ?_
  unfold ir__law_setup
  simp only [dSc] at key
  simp [startR, semA, semB, onL, on1, on2, vws, biE, items, line, lcSem, wipeR, dSc, ixE, key, at_mkS s sc, show s.ps.length ≤ 16777216 by omega]
theorem word_ix (s : Su) {m : Nat} {p : Pl} {k : Int} (hm : s.ps[m]? = some (p, k)) : atI (s.ps.map fun x => dW x.1) (m : Int) = some (dW p) := by
  rw [atI_nat, List.getElem?_map, hm]; rfl
@[simp] theorem vw_W (p : Pl) (h : Hh) : vw h (dW p) = some (dW p) := rfl
@[simp] theorem ix_W0 (p : Pl) : ixE (dW p) (.int 0) = some (.str p.b.s) := rfl
@[simp] theorem ix_W1 (p : Pl) : ixE (dW p) (.int 1) = some (.str p.f.s) := rfl
@[simp] theorem ix_W2 (p : Pl) : ixE (dW p) (.int 2) = some (.str p.r.s) := rfl
@[simp] theorem vw_Sc (s : Su) (h : Hh) : vw h (dSc s) = some (dSc s) := rfl
@[simp] theorem ix_Sc0 (s : Su) : ixE (dSc s) (.int 0) = some (.tup (s.ps.map fun x => dW x.1)) := rfl
@[simp] theorem ix_Sc1 (s : Su) : ixE (dSc s) (.int 1) = some (.tup (s.ps.map fun x => .int x.2)) := rfl
@[simp] theorem ix_Sc2 (s : Su) : ixE (dSc s) (.int 2) = some (.int s.top) := rfl
@[simp] theorem ix_Sc3 (s : Su) : ixE (dSc s) (.int 3) = some (.int s.limit) := rfl
@[simp] theorem ix_Sc4 (s : Su) : ixE (dSc s) (.int 4) = some (.int s.back) := rfl
@[simp] theorem ix_Sc5 (s : Su) : ixE (dSc s) (.int 5) = some (.int s.ahead) := rfl
theorem ix_words (s : Su) {m : Nat} {p : Pl} {k : Int} (hm : s.ps[m]? = some (p, k)) : ixE (.tup (s.ps.map fun x => dW x.1)) (.int m) = some (dW p) := word_ix s hm
theorem ix_marks (s : Su) {m : Nat} {p : Pl} {k : Int} (hm : s.ps[m]? = some (p, k)) : ixE (.tup (s.ps.map fun x => D.int x.2)) (.int m) = some (.int k) := mark_ix s hm
@[simp] theorem ix_t0 (a : D) (l : List D) : ixE (.tup (a :: l)) (.int 0) = some a := by simp [ixE, items]
@[simp] theorem ix_t1 (a b : D) (l : List D) : ixE (.tup (a :: b :: l)) (.int 1) = some b := by simp [ixE, items]
@[simp] theorem ix_t2 (a b c : D) (l : List D) : ixE (.tup (a :: b :: c :: l)) (.int 2) = some c := by simp [ixE, items]
@[simp] theorem ix_t3 (a b c d : D) (l : List D) : ixE (.tup (a :: b :: c :: d :: l)) (.int 3) = some d := by simp [ixE, items]
theorem at_lgive (s : Su) (m : Nat) (p : Pl) (k : Int) (hm : s.ps[m]? = some (p, k)) (x : Si4) (xo : x.Ok s) (h : Hh) : F__law_give [dSc s, .int m, dSi x] h = .ok (.tup [dSi (gvn s p x).1, dO ((gvn s p x).2.map dP)]) h := by
  obtain ⟨a1, a2, b1, b2, c1, c2, d1, d2⟩ := xo
  obtain ⟨a, b, c, d⟩ := x
  dsimp only at *
  refine pure_of (h' := []) (by simp [nrs, nr_Sc, nr, dSi]) rfl (by generalize gvn s p ⟨a, b, c, d⟩ = y; obtain ⟨y1, y2⟩ := y; cases y2 <;> rfl) ?_
  unfold ir__law_give dSi
  obtain ⟨pb, pf, pr⟩ := p
  by_cases hb : b = -1
  · subst hb
    by_cases hd : d < a
    · cases pb <;> cases pr <;> simp [startR, semA, semB, semX, Xa.sem, setsX, slOf, onL, on1, on2, vws, biE, line, ix_words s hm, Tg.put, Tg.puts, cmp_eq_int, binE, isNonD, gvn, nxt, dO, dP, hd, show ¬ a ≤ d by omega]
    · cases pb <;> cases pr <;> simp [startR, semA, semB, semX, Xa.sem, setsX, slOf, onL, on1, on2, vws, biE, line, ix_words s hm, Tg.put, Tg.puts, cmp_eq_int, binE, isNonD, gvn, nxt, dO, dP, hd, show a ≤ d by omega]
  · have hb0 : ¬ b < 0 := by omega
    rcases Int.lt_trichotomy a b with hab | hab | hab
    · have hba : ¬ b < a := by omega
      have hne : ¬ a = b := by omega
      cases pb
      · cases pr <;> simp [startR, semA, semB, semX, Xa.sem, setsX, slOf, onL, on1, on2, vws, biE, line, ix_words s hm, Tg.put, Tg.puts, cmp_eq_int, binE, isNonD, gvn, nxt, dO, dP, hb, hb0, hab, hba, hne]
      · by_cases hc : c < s.limit
        · cases pr <;> simp [startR, semA, semB, semX, Xa.sem, setsX, slOf, onL, on1, on2, vws, biE, line, ix_words s hm, Tg.put, Tg.puts, cmp_eq_int, binE, isNonD, gvn, nxt, dO, dP, hb, hb0, hab, hba, hne, hc]
        · by_cases ht : b < s.top
          · cases pf <;> cases pr <;> simp [startR, semA, semB, semX, Xa.sem, setsX, slOf, onL, on1, on2, vws, biE, line, ix_words s hm, Tg.put, Tg.puts, cmp_eq_int, binE, isNonD, gvn, nxt, dO, dP, hb, hb0, hab, hba, hne, hc, ht]
          · cases pf <;> cases pr <;> simp [startR, semA, semB, semX, Xa.sem, setsX, slOf, onL, on1, on2, vws, biE, line, ix_words s hm, Tg.put, Tg.puts, cmp_eq_int, binE, isNonD, gvn, nxt, dO, dP, hb, hb0, hab, hba, hne, hc, ht]
      · cases pr <;> simp [startR, semA, semB, semX, Xa.sem, setsX, slOf, onL, on1, on2, vws, biE, line, ix_words s hm, Tg.put, Tg.puts, cmp_eq_int, binE, isNonD, gvn, nxt, dO, dP, hb, hb0, hab, hba, hne]
    · subst hab
      by_cases hc : c < s.limit
      · cases pb <;> cases pr <;> simp [startR, semA, semB, semX, Xa.sem, setsX, slOf, onL, on1, on2, vws, biE, line, ix_words s hm, Tg.put, Tg.puts, cmp_eq_int, binE, isNonD, gvn, nxt, dO, dP, hb, hb0, hc]
      · by_cases ht : a < s.top
        · cases pb <;> cases pf <;> cases pr <;> simp [startR, semA, semB, semX, Xa.sem, setsX, slOf, onL, on1, on2, vws, biE, line, ix_words s hm, Tg.put, Tg.puts, cmp_eq_int, binE, isNonD, gvn, nxt, dO, dP, hb, hb0, hc, ht]
        · cases pb <;> cases pf <;> cases pr <;> simp [startR, semA, semB, semX, Xa.sem, setsX, slOf, onL, on1, on2, vws, biE, line, ix_words s hm, Tg.put, Tg.puts, cmp_eq_int, binE, isNonD, gvn, nxt, dO, dP, hb, hb0, hc, ht]
    · have hba : ¬ a < b := by omega
      have hne : ¬ a = b := by omega
      cases pb <;> cases pr <;> simp [startR, semA, semB, semX, Xa.sem, setsX, slOf, onL, on1, on2, vws, biE, line, ix_words s hm, Tg.put, Tg.puts, cmp_eq_int, binE, isNonD, gvn, nxt, dO, dP, hb, hb0, hab, hba, hne]
end Ev

set_option Elab.async false
set_option linter.all false
set_option maxRecDepth 100000
set_option maxHeartbeats 8000000
namespace Ev
open PySem L2 Pf
/-- the law's step -/
def stp1 (s : Su) (p : Pl) (k : Int) (x : Si4) : Evt → Si4 × Nm
  | .clock _ r => (⟨r, x.b, x.c, x.d⟩, none)
  | .restart _ => (rst s p x, none)
  | .give _ => ((gvn s p x).1, (gvn s p x).2.map fun q => (q.1, k, q.2))
theorem si_sl (x : Si4) : slE (dSi x) (some 1) none = some (.tup [.int x.b, .int x.c, .int x.d]) := by
  obtain ⟨a, b, c, d⟩ := x
  simp [slE, dSi, cut1]
@[simp] theorem ix_Si0 (x : Si4) : ixE (dSi x) (.int 0) = some (.int x.a) := rfl
@[simp] theorem ix_Si3 (x : Si4) : ixE (dSi x) (.int 3) = some (.int x.d) := rfl
theorem ix_St (st : List Si4) {m : Nat} {x : Si4} (hx : st[m]? = some x) : ixE (dSt st) (.int m) = some (dSi x) := by
  show atI (st.map dSi) (m : Int) = _
  rw [atI_nat, List.getElem?_map, hx]; rfl
@[simp] theorem eq_restart (e : Evt) : cmpE .Eq (.str e.s) (.str [114, 101, 115, 116, 97, 114, 116]) = some (decide (e = .restart e.m)) := by cases e <;> simp [Evt.m] <;> rfl
theorem at_lstep (s : Su) (ok : s.Ok) (st : List Si4) (so : St.Ok s st) (ev : Evt) (p : Pl) (k : Int) (hm : s.ps[ev.m]? = some (p, k)) (x : Si4) (hx : st[ev.m]? = some x) (h : Hh) :
    F__law_step [dSc s, dSt st, dEv ev] h = .ok (.tup [dSt (up st ev.m (stp1 s p k x ev).1), dNm (stp1 s p k x ev).2]) h := by
  have xo := so.2 _ (List.mem_of_getElem? hx)
  have hl : st.length ≤ 2 := by rw [so.1]; exact ok.l2
  have hg := at_lgive s ev.m p k hm x xo []
  refine pure_of (h' := []) (by simp [nrs, nr_Sc, nr_St, nr_Ev]) rfl (by simp [nr, nrs, nr_St, nr_Nm]) ?_
  have sl1 : slE (dSt st) none (some (ev.m : Int)) = some (.tup (st.map dSi |>.take ev.m)) := by simp [slE, dSt, cut_to]
  have sl2 : slE (dSt st) (some ((ev.m : Int) + 1)) none = some (.tup (st.map dSi |>.drop (ev.m + 1))) := by simp [slE, dSt, cut_succ]
  unfold ir__law_step
  have f1 : ∀ m, min m st.length ≤ 16777215 := fun m => by omega
  have f2 : ∀ m, min m st.length + 1 + (st.length - (m + 1)) ≤ 16777216 := fun m => by omega
  have f3 : ∀ m, min m st.length + (st.length - (m + 1) + 1) ≤ 16777216 := fun m => by omega
  have hx' := ix_St st hx
  simp only [dSt] at sl1 sl2 hx'
  cases ev with
  | clock m r =>
    simp [startR, semA, semX, Xa.sem, setsX, slOf, on1, on2, semO, line, Tg.put, Tg.puts, hx', Evt.isC, sl1, sl2, si_sl, binE, killR, stp1, up, dNm, dO, f1, f2, dSt, f3]
    try rfl
  | give m =>
    have q : Evt.give m ≠ Evt.restart m := by simp
    generalize hy : gvn s p x = y at *
    obtain ⟨y1, y2⟩ := y
    cases y2 with
    | none =>
      simp [startR, semA, semX, Xa.sem, setsX, slOf, on1, on2, semO, line, Tg.put, Tg.puts, hx', Evt.isC, sl1, sl2, si_sl, binE, killR, stp1, up, dNm, dO, f1, f2, dSt, f3, hg, isNonD, hy, q]
      try rfl
    | some w =>
      simp [startR, semA, semX, Xa.sem, setsX, slOf, on1, on2, semO, line, Tg.put, Tg.puts, hx', Evt.isC, sl1, sl2, si_sl, binE, killR, stp1, up, dNm, dO, f1, f2, dSt, f3, hg, isNonD, hy, q, dP, ix_marks s hm]
      try rfl
  | restart m =>
    simp only [Evt.m] at hm hx sl1 sl2 hx' hg
    by_cases q1 : p.r = .saved <;> by_cases q2 : 0 ≤ x.d
    · have q3 : x.d ≠ -1 := by omega
      simp [startR, semA, semX, Xa.sem, setsX, slOf, on1, on2, semO, line, Tg.put, Tg.puts, hx', Evt.isC, sl1, sl2, si_sl, binE, killR, stp1, up, dNm, dO, f1, f2, dSt, f3, Evt.m, ix_words s hm, q1, q2, q3, rst, truE, ofB]
      try rfl
    · have q3 : x.d = -1 := by have := xo.d1; omega
      simp [startR, semA, semX, Xa.sem, setsX, slOf, on1, on2, semO, line, Tg.put, Tg.puts, hx', Evt.isC, sl1, sl2, si_sl, binE, killR, stp1, up, dNm, dO, f1, f2, dSt, f3, Evt.m, ix_words s hm, q1, q2, q3, rst, truE, ofB]
      try rfl
    · simp [startR, semA, semX, Xa.sem, setsX, slOf, on1, on2, semO, line, Tg.put, Tg.puts, hx', Evt.isC, sl1, sl2, si_sl, binE, killR, stp1, up, dNm, dO, f1, f2, dSt, f3, Evt.m, ix_words s hm, q1, q2, rst, truE, ofB]
      try rfl
    · simp [startR, semA, semX, Xa.sem, setsX, slOf, on1, on2, semO, line, Tg.put, Tg.puts, hx', Evt.isC, sl1, sl2, si_sl, binE, killR, stp1, up, dNm, dO, f1, f2, dSt, f3, Evt.m, ix_words s hm, q1, q2, rst, truE, ofB]
      try rfl
end Ev

set_option Elab.async false
set_option linter.all false
set_option maxRecDepth 100000
set_option maxHeartbeats 4000000
namespace Ev
open PySem L2 Pf
def jmp (s : Su) (x : Si4) (r : Int) : Bool := decide (r ≠ x.a ∧ x.a - s.back ≤ r ∧ r ≤ x.a + s.ahead)
def levs1 (s : Su) (q : Nat × Si4) : List Evt := [.give q.1, .restart q.1] ++ (((List.range (s.top + 1).toNat).map fun (i : Nat) => (i : Int)).filter (jmp s q.2)).map (.clock q.1)
def levs (s : Su) (st : List Si4) : List Evt := (idx 0 st).flatMap (levs1 s)
def evs (s : Su) (st : List Si4) : List Evt := (levs s st).mergeSort fun a b => PySem.W.dataLe false pd (dEv a) (dEv b)
theorem idx_fst : ∀ (k : Nat) (l : List Si4), (idx k l).map (fun q => D.int (q.1 : Int)) = (List.range l.length).map fun (i : Nat) => D.int ((k + i : Nat) : Int)
  | _, [] => rfl
  | k, x :: l => by
    have := idx_fst (k + 1) l
    simp only [idx, List.map_cons, this, List.length_cons, List.range_succ_eq_map, List.map_map, Function.comp_def]
    simp [Nat.add_assoc, Nat.add_comm 1]
theorem filt_flat {α β : Type} (p : α → Bool) (f : α → β) : ∀ l : List α, l.flatMap (fun x => if p x then [f x] else []) = (l.filter p).map f
  | [] => rfl
  | x :: l => by cases h : p x <;> simp [h, filt_flat p f l]
theorem at_lev_loop (s : Su) (ok : s.Ok) (st : List Si4) (m : Nat) (x : Si4) (acc : List D) (hB : acc.length ≤ 900) :
    forGo (.n 5) (semSs [.s (Sm.ife (Xt.and (Xt.cmp .NotEq (Xo.v 5) (Xo.v 4)) (Xt.chain .LtE .LtE ((Xp.bin .Sub (Xo.v 4) ((Xp.ix (Xo.v 0) ((Xp.c (.int 4))).o)).o)).o (Xo.v 5) ((Xp.bin .Add (Xo.v 4) ((Xp.ix (Xo.v 0) ((Xp.c (.int 5))).o)).o)).o))
        [.s (Sm.app 2 (Xp.tup [(Xp.c (.str [99, 108, 111, 99, 107])), (Xp.v 3), (Xp.v 5)]))]
        []), .kill [5]]) (((List.range (s.top + 1).toNat).map fun (i : Nat) => (i : Int)).map .int) [.pl (dSc s), .pl (dSt st), .ow (.lst acc), .pl (.int m), .pl (.int x.a), .un] [] =
      .nx [.pl (dSc s), .pl (dSt st), .ow (.lst (acc ++ ((((List.range (s.top + 1).toNat).map fun (i : Nat) => (i : Int)).filter (jmp s x)).map (Evt.clock m)).map dEv)), .pl (.int m), .pl (.int x.a), .un] [] := by
  have key := for_apps (t := .n 5) (bd := semSs [.s (Sm.ife (Xt.and (Xt.cmp .NotEq (Xo.v 5) (Xo.v 4)) (Xt.chain .LtE .LtE ((Xp.bin .Sub (Xo.v 4) ((Xp.ix (Xo.v 0) ((Xp.c (.int 4))).o)).o)).o (Xo.v 5) ((Xp.bin .Add (Xo.v 4) ((Xp.ix (Xo.v 0) ((Xp.c (.int 5))).o)).o)).o))
        [.s (Sm.app 2 (Xp.tup [(Xp.c (.str [99, 108, 111, 99, 107])), (Xp.v 3), (Xp.v 5)]))]
        []), .kill [5]]) (f := D.int) (g := fun r => if jmp s x r then [dEv (.clock m r)] else []) (R := fun acc => [.pl (dSc s), .pl (dSt st), .ow (.lst acc), .pl (.int m), .pl (.int x.a), .un]) (h := []) (B := 1000) ((List.range (s.top + 1).toNat).map fun (i : Nat) => (i : Int)) acc (by
      rw [filt_flat, List.length_map]
      have h1 := List.length_filter_le (jmp s x) ((List.range (s.top + 1).toNat).map fun (i : Nat) => (i : Int))
      have := ok.t2
      simp only [List.length_map, List.length_range] at h1
      omega) fun r _ acc hB => ⟨_, rfl, by
        unfold jmp at hB ⊢
        by_cases q1 : r = x.a
        · simp [on1, on2, killR, cmp_ne_int, binE, chainS, toB, ofB, q1]
        · by_cases q2 : x.a - s.back ≤ r
          · by_cases q3 : r ≤ x.a + s.ahead
            · simp [q1, q2, q3] at hB
              simp [on1, on2, killR, cmp_ne_int, binE, chainS, toB, ofB, q1, q2, q3, semA, line, show acc.length < 16777216 by omega, dEv, sCL]
            · simp [on1, on2, killR, cmp_ne_int, binE, chainS, toB, ofB, q1, q2, q3]
          · simp [on1, on2, killR, cmp_ne_int, binE, chainS, toB, ofB, q1, q2]⟩
  rw [filt_flat] at key
  rw [key, List.map_map]; rfl
theorem lev_len (s : Su) (ok : s.Ok) (q : Nat × Si4) : (levs1 s q).length ≤ 5 := by
  have h1 := List.length_filter_le (jmp s q.2) ((List.range (s.top + 1).toNat).map fun (i : Nat) => (i : Int))
  have := ok.t2
  simp only [List.length_map, List.length_range] at h1
  simp [levs1]
  omega
def lvB : Rho → Hh → Out := semSs [.s (Sm.asg (.n 4) (Xp.ix ((Xp.ix (Xo.v 1) (Xo.v 3))).o ((Xp.c (.int 0))).o)),
     .s (Sm.asgO 2 (Xn.add (Xo.v 2) ((Xp.fz (Xn.lst [(Xp.tup [(Xp.c (.str [103, 105, 118, 101])), (Xp.v 3)]), (Xp.tup [(Xp.c (.str [114, 101, 115, 116, 97, 114, 116])), (Xp.v 3)])]))).o)),
     .s (Sm.for_ (.n 5) (Ib.r1 (Xp.bin .Add ((Xp.ix (Xo.v 0) ((Xp.c (.int 2))).o)).o ((Xp.c (.int 1))).o))
      [.s (Sm.ife (Xt.and (Xt.cmp .NotEq (Xo.v 5) (Xo.v 4)) (Xt.chain .LtE .LtE ((Xp.bin .Sub (Xo.v 4) ((Xp.ix (Xo.v 0) ((Xp.c (.int 4))).o)).o)).o (Xo.v 5) ((Xp.bin .Add (Xo.v 4) ((Xp.ix (Xo.v 0) ((Xp.c (.int 5))).o)).o)).o))
        [.s (Sm.app 2 (Xp.tup [(Xp.c (.str [99, 108, 111, 99, 107])), (Xp.v 3), (Xp.v 5)]))]
        []), .kill [5]]), .kill [3, 4, 5]]
theorem at_lev_step (s : Su) (ok : s.Ok) (st : List Si4) (m : Nat) (x : Si4) (hx : st[m]? = some x) (acc : List D) (hB : acc.length ≤ 800) : lvB [.pl (dSc s), .pl (dSt st), .ow (.lst acc), .pl (.int m), .un, .un] [] = .nx [.pl (dSc s), .pl (dSt st), .ow (.lst (acc ++ (levs1 s (m, x)).map dEv)), .un, .un, .un] [] := by
  have t1 := ok.t1
  have t2 := ok.t2
  unfold lvB
  have lp := at_lev_loop s ok st m x (acc ++ [.tup [.str [103, 105, 118, 101], .int m], .tup [.str [114, 101, 115, 116, 97, 114, 116], .int m]]) (by simp only [List.length_append, List.length_cons, List.length_nil]; omega)
  have r1 : rngOk (s.top + 1) = true := by unfold rngOk; simp; omega
  rw [List.map_map] at lp
  simp only [Function.comp_def] at lp
  have e1 : (acc.length + [D.tup [D.str [103, 105, 118, 101], D.int m], D.tup [D.str [114, 101, 115, 116, 97, 114, 116], D.int m]].length ≤ line) = True := eq_true (by show acc.length + 2 ≤ line; unfold line; omega)
  simp [on1, on2, ix_St st hx, Tg.put, semA, line, binE, r1, lp, killR, levs1, dEv, sGI, sRE, show acc.length ≤ 16777214 by omega]
theorem len_St (st : List Si4) (d : D) (o : Sl) : (Xp.bi .len [Xo.v 1]).sem [.pl d, .pl (dSt st), o, .un, .un, .un] [] = .ok (.int (st.map dSi).length) [] := by
  simp [semB, onL, vws, biE, dSt, lenE, items]
theorem rng_any (x : Xp) (r : Rho) (h h1 : Hh) (j : Int) (e : x.sem r h = .ok (.int j) h1) (r2 : rngOk j = true) : (Ib.r1 x).sem r h = .ok ((List.range j.toNat).map fun (k : Nat) => D.int (k : Int)) h1 := by
  rw [mi_r1, e, bind_ok]
  dsimp only
  rw [if_pos r2]
theorem rng_len (st : List Si4) (r2 : rngOk ((st.map dSi).length : Int) = true) (d : D) (o : Sl) : (Ib.r1 (Xp.bi .len [Xo.v 1])).sem [.pl d, .pl (dSt st), o, .un, .un, .un] [] = .ok ((List.range ((st.map dSi).length : Int).toNat).map fun (i : Nat) => D.int (i : Int)) [] := rng_any _ _ _ _ _ (len_St st d o) r2
theorem nil_new (r : Rho) (h : Hh) : (Xn.lst []).sem r h = .ok (.lst []) h := by
  simp [semA]
theorem at_levents (s : Su) (ok : s.Ok) (st : List Si4) (hl : st.length ≤ 2) (h : Hh) : F__law_events [dSc s, dSt st] h = .ok (.lst ((evs s st).map dEv)) h := by
  have t1 := ok.t1
  have t2 := ok.t2
  have key := for_apps (t := .n 3) (bd := lvB) (f := fun q : Nat × Si4 => D.int q.1) (g := fun q => (levs1 s q).map dEv) (R := fun acc => [.pl (dSc s), .pl (dSt st), .ow (.lst acc), .un, .un, .un]) (h := []) (B := 800) (idx 0 st) [] (by
        have := flat_len (fun q => (levs1 s q).map dEv) 5 (idx 0 st) fun q hq => by rw [List.length_map]; exact lev_len s ok q
        rw [idx_len] at this
        simp only [List.length_nil, Nat.zero_add]
        omega) fun q hq acc hB => by
    obtain ⟨m, x⟩ := q
    obtain ⟨_, hx⟩ := idx_get hq
    have hx : st[m]? = some x := by simpa using hx
    exact ⟨_, rfl, at_lev_step s ok st m x hx acc (by omega)⟩
  have fm : (idx 0 st).flatMap (fun q => (levs1 s q).map dEv) = (levs s st).map dEv := by unfold levs; rw [List.map_flatMap]
  have ln : (levs s st).length ≤ 100 := by
    have := flat_len (levs1 s) 5 (idx 0 st) fun q hq => lev_len s ok q
    rw [idx_len] at this
    unfold levs
    omega
  rw [fm, idx_fst] at key
  refine pure_of (h' := []) (by simp [nrs, nr_Sc, nr_St]) rfl (by simp [nr, nrs_map _ nr_Ev]) ?_
  have so : sortD ((levs s st).map dEv) = (evs s st).map dEv := by
    unfold sortD evs
    rw [← List.map_mergeSort (f := dEv) (l := levs s st) (r := fun a b => PySem.W.dataLe false pd (dEv a) (dEv b)) (s := PySem.W.dataLe false pd) (fun a _ b _ => rfl)]
  have sk : sortOk ((levs s st).map dEv) = true := ev_sort (fun e => e) _
  have r2 : rngOk ((st.map dSi).length : Int) = true := by rw [List.length_map]; unfold rngOk; simp; omega
  have rl := rng_len st r2 (dSc s) (.ow (.lst []))
  rw [List.length_map, Int.toNat_natCast] at rl
  simp only [dSt] at rl
  unfold ir__law_events
  simp only [Nat.zero_add, List.nil_append] at key
  simp only [dSt] at key
  unfold lvB at key
  have hln : (List.map dEv (levs s st)).length ≤ line := by rw [List.length_map]; exact Nat.le_trans ln (by decide)
  have fin : bnE .sorted [.lst ((levs s st).map dEv)] = some (.lst ((evs s st).map dEv)) := by
    show (if (sortOk ((levs s st).map dEv) && decide ((List.map dEv (levs s st)).length ≤ line)) = true then some (D.lst (sortD ((levs s st).map dEv))) else none) = _
    rw [sk, decide_eq_true hln, so]; rfl
  have z : (0 : Nat) ≤ line := Nat.zero_le _
  have st0 : startR 6 [dSc s, .tup (st.map dSi)] = [.pl (dSc s), .pl (.tup (st.map dSi)), .un, .un, .un, .un] := rfl
  simp only [dSt]
  rw [st0, ss_s, ms_asgO, nil_new, st_ok, then_nx]
  rw [ss_s, ms_for]
  show outR ((((Ib.r1 (Xp.bi .len [Xo.v 1])).sem [.pl (dSc s), .pl (.tup (st.map dSi)), .ow (.lst []), .un, .un, .un] []).st _ _).then _) = _
  rw [rl, st_ok]
  show outR ((forGo _ _ _ [.pl (dSc s), .pl (.tup (st.map dSi)), .ow (.lst []), .un, .un, .un] []).then _) = _
  rw [key, then_nx, ss_s, ms_ret, m_fz]
  simp [semB, onL, vws, fin]
end Ev

set_option Elab.async false
set_option linter.all false
set_option maxRecDepth 100000
set_option maxHeartbeats 4000000
namespace Ev
open PySem L2 Pf
theorem at_lbegin (s : Su) (ok : s.Ok) (h : Hh) : F__law_begin [dSc s] h = .ok (dSt (beg s)) h := by
  refine pure_of (h' := []) (by simp [nrs, nr_Sc]) rfl (nr_St _) ?_
  have h1 := ok.l1
  have h2 := ok.l2
  have e : s.ps.length = 1 ∨ s.ps.length = 2 := by omega
  unfold ir__law_begin beg
  rcases e with e | e <;> simp [startR, semA, semB, onL, vws, biE, lenE, items, line, on1, on2, mulE, e] <;> rfl
end Ev

set_option Elab.async false
set_option linter.all false
set_option maxRecDepth 100000
set_option maxHeartbeats 4000000
namespace Ev
open PySem L2 Pf
mutual
theorem eqv_pd : ∀ d : D, PyData.eqv (pd d) (pd d) = true
  | .non => rfl
  | .bl b => by simp [pd, PyData.eqv]
  | .int i => by simp [pd, PyData.eqv]
  | .str x => by simp [pd, PyData.eqv]
  | .tup l => by simp only [pd, PyData.eqv]; exact eqv_pds l
  | .lst l => by simp only [pd, PyData.eqv]; exact eqv_pds l
  | .lsc l => by simp only [pd, PyData.eqv]; exact eqv_pds l
  | .ty _ => rfl
  | .dct _ => rfl
  | .set _ => rfl
  | .ins _ _ => rfl
  | .ref _ => rfl
  | .gl _ => rfl
  | .clo _ _ => rfl
  | .exc _ _ => rfl
theorem eqv_pds : ∀ l : List D, PyData.eqvAll (pds l) (pds l) = true
  | [] => rfl
  | d :: l => by simp only [pds, PyData.eqvAll, eqv_pd d, eqv_pds l, Bool.and_self]
end
theorem eq_same {d : D} (h : dep 60 d = true) : cmpE .Eq d d = some true := by
  show eqE d d = _
  unfold eqE
  simp [h, eqv_pd]
theorem ne_same {d : D} (h : dep 60 d = true) : cmpE .NotEq d d = some false := by
  unfold cmpE
  simp [eqE, h, eqv_pd]
theorem up_get (st : List Si4) {m : Nat} (hm : m < st.length) (y : Si4) : (up st m y) = st.set m y := by
  unfold up
  rw [List.set_eq_take_append_cons_drop, if_pos hm]
theorem idx_mem : ∀ {k : Nat} {l : List Si4} {m : Nat} {x : Si4}, l[m]? = some x → (k + m, x) ∈ idx k l
  | k, [], m, x, h => by simp at h
  | k, y :: l, 0, x, h => by simp at h; subst h; simp [idx]
  | k, y :: l, m + 1, x, h => by
    have := idx_mem (k := k + 1) (l := l) (m := m) (x := x) (by simpa using h)
    rw [show k + 1 + m = k + (m + 1) by omega] at this
    exact List.mem_cons_of_mem _ this
/-- what stands behind an event, by the law -/
structure Beh (s : Su) (st : List Si4) (e : Evt) (y : List Si4) (o : Nm) : Prop where
  ex : ∃ p k x, s.ps[e.m]? = some (p, k) ∧ st[e.m]? = some x ∧ y = up st e.m (stp1 s p k x e).1 ∧ o = (stp1 s p k x e).2
theorem Beh.one {s : Su} {st y z : List Si4} {e : Evt} {o q : Nm} (a : Beh s st e y o) (b : Beh s st e z q) : y = z ∧ o = q := by
  obtain ⟨p, k, x, h1, h2, rfl, rfl⟩ := a
  obtain ⟨p', k', x', g1, g2, rfl, rfl⟩ := b
  rw [h1] at g1; rw [h2] at g2
  cases g1; cases g2
  exact ⟨rfl, rfl⟩
theorem row_fn {s : Su} {st : List Si4} {v : Rw} (hv : v ∈ mvs s st) : Beh s st v.1 v.2.1 v.2.2 := by
  unfold mvs at hv
  obtain ⟨⟨m, x⟩, hq, hv⟩ := List.mem_flatMap.mp hv
  obtain ⟨_, hx⟩ := idx_get hq
  have hx : st[m]? = some x := by simpa using hx
  unfold rows1 at hv
  dsimp only at hv
  cases hp : s.ps[m]? with
  | none => rw [hp] at hv; simp at hv
  | some pk =>
    obtain ⟨p, k⟩ := pk
    rw [hp] at hv
    obtain ⟨w, hw, rfl⟩ := List.mem_map.mp hv
    unfold smv at hw
    rcases List.mem_append.mp hw with hw | hw
    · obtain ⟨r, hr, rfl⟩ := List.mem_map.mp hw
      exact ⟨p, k, x, hp, hx, rfl, rfl⟩
    · simp only [List.mem_cons, List.not_mem_nil, or_false] at hw
      rcases hw with rfl | rfl
      · exact ⟨p, k, x, hp, hx, rfl, rfl⟩
      · exact ⟨p, k, x, hp, hx, rfl, rfl⟩
structure EvOk (s : Su) (e : Evt) : Prop where
  m : e.m < s.ps.length
  r : ∀ m r, e = .clock m r → 0 ≤ r ∧ r ≤ s.top
theorem lev_mem {s : Su} (ok : s.Ok) {st : List Si4} (so : St.Ok s st) {e : Evt} (he : e ∈ levs s st) : EvOk s e ∧ ∃ v ∈ mvs s st, v.1 = e := by
  unfold levs at he
  obtain ⟨⟨m, x⟩, hq, hv⟩ := List.mem_flatMap.mp he
  have hq' := hq
  obtain ⟨_, hx⟩ := idx_get hq
  have hx : st[m]? = some x := by simpa using hx
  have hm : m < s.ps.length := by
    have := (List.getElem?_eq_some_iff.mp hx).1
    rw [so.1] at this; exact this
  have xo := so.2 _ (List.mem_of_getElem? hx)
  obtain ⟨⟨p, k⟩, hp⟩ : ∃ pk, s.ps[m]? = some pk := ⟨_, List.getElem?_eq_getElem hm⟩
  have mem : ∀ w ∈ smv s m p x, rowOf1 st m k w ∈ mvs s st := fun w hw => by
    unfold mvs
    refine List.mem_flatMap.mpr ⟨(m, x), hq', ?_⟩
    unfold rows1
    simp only [hp]
    exact List.mem_map.mpr ⟨w, hw, rfl⟩
  unfold levs1 at hv
  rcases List.mem_append.mp hv with hv | hv
  · simp only [List.mem_cons, List.not_mem_nil, or_false] at hv
    rcases hv with rfl | rfl
    · exact ⟨⟨hm, fun _ _ z => nomatch z⟩, _, mem (.give m, (gvn s p x).1, (gvn s p x).2) (by simp [smv]), rfl⟩
    · exact ⟨⟨hm, fun _ _ z => nomatch z⟩, _, mem (.restart m, rst s p x, none) (by simp [smv]), rfl⟩
  · obtain ⟨r, hr, rfl⟩ := List.mem_map.mp hv
    obtain ⟨h1, h2⟩ := List.mem_filter.mp hr
    obtain ⟨i, hi, rfl⟩ := List.mem_map.mp h1
    have hi := List.mem_range.mp hi
    simp only [jmp, decide_eq_true_eq] at h2
    obtain ⟨o1, o2, o3, o4, o5, o6, o7, o8, o9, o10⟩ := ok
    obtain ⟨x1, x2, _, _, _, _, _, _⟩ := xo
    refine ⟨⟨hm, fun m' r' z => ?_⟩, _, mem (.clock m (i : Int), ⟨i, x.b, x.c, x.d⟩, none) ?_, rfl⟩
    · cases z; omega
    · unfold smv
      refine List.mem_append_left _ (List.mem_map.mpr ⟨(i : Int), ?_, rfl⟩)
      unfold rdg
      refine List.mem_filter.mpr ⟨List.mem_map.mpr ⟨(i - max 0 (x.a - s.back)).toNat, List.mem_range.mpr ?_, ?_⟩, by simpa using h2.1⟩
      · omega
      · omega
theorem can_of {s : Su} (ok : s.Ok) {st : List Si4} (so : St.Ok s st) {e : Evt} (he : e ∈ evs s st) : ∃ y o, Can s st e y o ∧ Beh s st e y o := by
  have he : e ∈ levs s st := (List.mergeSort_perm _ _).mem_iff.mp he
  obtain ⟨eo, v, hv, ev⟩ := lev_mem ok so he
  have hv' : v ∈ srt (mvs s st) := (List.mergeSort_perm _ _).mem_iff.mpr hv
  cases hf : (srt (mvs s st)).find? (fun v => decide (v.1 = e)) with
  | none =>
    have := List.find?_eq_none.mp hf v hv'
    simp [ev] at this
  | some w =>
    have hw := List.mem_of_find?_eq_some hf
    have hw' : w ∈ mvs s st := (List.mergeSort_perm _ _).mem_iff.mp hw
    have e1 : w.1 = e := by simpa using List.find?_some hf
    have b := row_fn hw'
    rw [e1] at b
    exact ⟨w.2.1, w.2.2, ⟨eo.m, eo.r, by unfold mv; rw [hf]; rfl⟩, b⟩
theorem stp_ok {s : Su} (ok : s.Ok) {p : Pl} {k : Int} {x : Si4} (xo : x.Ok s) {e : Evt} (eo : EvOk s e) : (stp1 s p k x e).1.Ok s := by
  obtain ⟨o1, o2, o3, o4, o5, o6, o7, o8, o9, o10⟩ := ok
  obtain ⟨x1, x2, x3, x4, x5, x6, x7, x8⟩ := xo
  cases e with
  | clock m r =>
    have := eo.r m r rfl
    exact ⟨this.1, this.2, x3, x4, x5, x6, x7, x8⟩
  | restart m =>
    simp only [stp1, rst]
    split
    · exact ⟨x1, x2, x7, x8, o5, Int.le_refl _, x7, x8⟩
    · exact ⟨x1, x2, by simp, by simp; omega, by simp, o5, x7, x8⟩
  | give m =>
    simp only [stp1, gvn]
    cases q : nxt s p x with
    | none => exact ⟨x1, x2, x3, x4, x5, x6, x7, x8⟩
    | some w =>
      have hw : -1 ≤ w.1 ∧ w.1 ≤ s.top ∧ 0 ≤ w.2 ∧ w.2 ≤ s.limit := by
        unfold nxt at q
        repeat' split at q
        all_goals first | (cases q; done) | (cases q; simp only []; omega)
      refine ⟨x1, x2, hw.1, hw.2.1, hw.2.2.1, hw.2.2.2, ?_, ?_⟩
      · dsimp only; split <;> omega
      · dsimp only; split <;> omega
theorem beh_ok {s : Su} (ok : s.Ok) {st y : List Si4} (so : St.Ok s st) {e : Evt} {o : Nm} (eo : EvOk s e) (b : Beh s st e y o) : St.Ok s y := by
  obtain ⟨p, k, x, h1, h2, rfl, rfl⟩ := b
  have hl := (List.getElem?_eq_some_iff.mp h2).1
  rw [up_get _ hl]
  refine ⟨by rw [List.length_set]; exact so.1, fun z hz => ?_⟩
  rcases List.mem_or_eq_of_mem_set hz with hz | rfl
  · exact so.2 z hz
  · exact stp_ok ok (so.2 _ (List.mem_of_getElem? h2)) eo
theorem Runs.snoc {s : Su} {st y z : List Si4} {t t' : List Nm} {l : List Evt} (r : Runs s st t l z t') {e : Evt} {o : Nm} (so : St.Ok s z) (c : Can s z e y o) : Runs s st t (l ++ [e]) y (if e.isG then t' ++ [o] else t') := by
  induction r with
  | nil => exact .cons so c .nil
  | cons a b _ ih => exact .cons a b (ih so c)
theorem at_lstep' {s : Su} (ok : s.Ok) {st y : List Si4} (so : St.Ok s st) {e : Evt} {o : Nm} (b : Beh s st e y o) (h : Hh) : F__law_step [dSc s, dSt st, dEv e] h = .ok (.tup [dSt y, dNm o]) h := by
  obtain ⟨p, k, x, h1, h2, rfl, rfl⟩ := b
  exact at_lstep s ok st so e p k h1 x h2 h
theorem beg_ok {s : Su} (ok : s.Ok) : St.Ok s (beg s) := by
  obtain ⟨o1, o2, o3, o4, o5, o6, o7, o8, o9, o10⟩ := ok
  refine ⟨by simp [beg], fun x hx => ?_⟩
  have := (List.mem_replicate.mp hx).2
  subst this
  exact ⟨by decide, by show (0 : Int) ≤ s.top; omega, by decide, by show (-1 : Int) ≤ s.top; omega, by decide, by show (0 : Int) ≤ s.limit; omega, by decide, by show (-1 : Int) ≤ s.top; omega⟩
theorem pick_map {α : Type} (f : α → D) (hf : ∀ x, nr (f x) = true) (l : List α) (hl : 0 < l.length) (hl2 : l.length < 1000000) (o : D) (ro : Row o) : ∃ (x : α) (o' : D), x ∈ l ∧ Row o' ∧ F__law_pick [.ref 0, .lst (l.map f)] [o] = .ok (f x) [o'] := by
  obtain ⟨i, d, o', r', hd, e⟩ := at_pick (l.map f) (by simpa using hl) (by simpa using hl2) (nrs_map f hf l) o ro
  rw [List.getElem?_map] at hd
  cases q : l[i]? with
  | none => rw [q] at hd; simp at hd
  | some x =>
    rw [q] at hd; simp at hd; subst hd
    exact ⟨x, o', List.mem_of_getElem? q, r', e⟩
end Ev

set_option Elab.async false
set_option linter.all false
set_option maxRecDepth 100000
set_option maxHeartbeats 4000000
namespace Ev
open PySem L2 Pf
def hsB : Rho → Hh → Out := semSs [.s (Sm.asg (.n 7) (Xp.call "_law_events" F__law_events [(Xp.v 1), (Xp.v 4)])),
     .s (Sm.asg (.n 8) (Xp.call "_law_pick" F__law_pick [(Xp.v 0), (Xp.bin .Add (Xo.v 7) ((Xp.fz (Xn.lc (Xp.v 10) (.n 10) (Ib.seq (Xp.v 7)) (some (Xt.cmp .Eq ((Xp.ix (Xo.v 10) ((Xp.c (.int 0))).o)).o ((Xp.c (.str [103, 105, 118, 101]))).o)) [("_law_one", 10)]))).o)])),
     .s (Sm.asg (.tu [(.n 4), (.n 9)]) (Xp.call "_law_step" F__law_step [(Xp.v 1), (Xp.v 4), (Xp.v 8)])),
     .s (Sm.app 5 (Xp.v 8)),
     .s (Sm.asg (.n 6) (Xp.bin .Add (Xo.v 6) ((Xp.mul ((Xp.fz (Xn.lst [(Xp.v 9)]))).o ((Xp.bi .int [((Xp.cmp .Eq ((Xp.ix (Xo.v 8) ((Xp.c (.int 0))).o)).o ((Xp.c (.str [103, 105, 118, 101]))).o)).o])).o)).o)), .kill [3, 7, 8, 9]]
def hsR (s : Su) (k : Sl) (st : List Si4) (l : List Evt) (t : List Nm) : Rho := [.pl (.ref 0), .pl (dSc s), .pl (.int 40), k, .pl (dSt st), .ow (.lst (l.map dEv)), .pl (.lst (t.map dNm)), .un, .un, .un, .un]
theorem levs_len {s : Su} (ok : s.Ok) {st : List Si4} (hl : st.length ≤ 2) : (evs s st).length ≤ 10 := by
  have := flat_len (levs1 s) 5 (idx 0 st) fun q hq => lev_len s ok q
  rw [idx_len] at this
  unfold evs
  rw [List.length_mergeSort]
  unfold levs
  omega
theorem evs_pos {s : Su} (ok : s.Ok) {st : List Si4} (so : St.Ok s st) : 0 < (evs s st).length := by
  unfold evs
  rw [List.length_mergeSort]
  unfold levs
  have := so.1
  have := ok.l1
  cases st with
  | nil => simp at *; omega
  | cons x l => simp [idx, levs1]
theorem hs_step (s : Su) (ok : s.Ok) (k : Sl) (st : List Si4) (so : St.Ok s st) (l : List Evt) (t : List Nm) (hl : l.length ≤ 1000) (ht : t.length ≤ 1000) (o : D) (ro : Row o) :
    ∃ (e : Evt) (y : List Si4) (q : Nm) (o' : D), EvOk s e ∧ Can s st e y q ∧ Beh s st e y q ∧ Row o' ∧ hsB (hsR s k st l t) [o] = .nx (hsR s .un y (l ++ [e]) (if e.isG then t ++ [q] else t)) [o'] := by
  have hl2 : st.length ≤ 2 := by rw [so.1]; exact ok.l2
  have n1 := levs_len ok hl2
  have n2 := evs_pos ok so
  have n3 := List.length_filter_le Evt.isG (evs s st)
  obtain ⟨e, o', he, ro', pk⟩ := pick_map dEv nr_Ev (evs s st ++ (evs s st).filter Evt.isG) (by rw [List.length_append]; omega) (by rw [List.length_append]; omega) o ro
  have he : e ∈ evs s st := by
    rcases List.mem_append.mp he with h | h
    · exact h
    · exact (List.mem_filter.mp h).1
  obtain ⟨y, q, c, b⟩ := can_of ok so he
  have eo : EvOk s e := ⟨c.m, c.r⟩
  refine ⟨e, y, q, o', eo, c, b, ro', ?_⟩
  have ev := at_levents s ok st hl2 [o]
  have sp := at_lstep' ok so b [o']
  have key := lc_filter (t := .n 10) (b := semT (some (Xt.cmp .Eq ((Xp.ix (Xo.v 10) ((Xp.c (.int 0))).o)).o ((Xp.c (.str [103, 105, 118, 101]))).o))) (e := (Xp.v 10).sem) (r := [.pl (.ref 0), .pl (dSc s), .pl (.int 40), k, .pl (dSt st), .ow (.lst (l.map dEv)), .pl (.lst (t.map dNm)), .pl (.lst ((evs s st).map dEv)), .un, .un, .un]) (h := [o]) (f := dEv) (g := dEv) (p := Evt.isG) (evs s st) fun x _ => ⟨_, rfl, by simp [semT, on1, on2], rfl⟩
  rw [List.map_append] at pk
  unfold hsB hsR
  have ln : (List.map dEv (evs s st)).length + (List.map dEv ((evs s st).filter Evt.isG)).length ≤ 16777216 := by simp only [List.length_map]; omega
  have f1 : ((evs s st).filter Evt.isG).length ≤ 16777216 := by omega
  have f2 : (evs s st).length + ((evs s st).filter Evt.isG).length ≤ 16777216 := by omega
  have f3 : (evs s st).length ≤ 16777216 := by omega
  cases g : e.isG with
  | true =>
    simp [semA, semB, onL, vws, biE, ev, Tg.put, Tg.puts, items, lcSem, wipeR, key, line, f1, f2, f3, on1, on2, binE, pk, sp, killR, mulE, g, ofB, show l.length < 16777216 by omega, show t.length < 16777216 by omega, show t.length + 1 ≤ 16777216 by omega]
  | false =>
    simp [semA, semB, onL, vws, biE, ev, Tg.put, Tg.puts, items, lcSem, wipeR, key, line, f1, f2, f3, on1, on2, binE, pk, sp, killR, mulE, g, ofB, show l.length < 16777216 by omega, show t.length < 16777216 by omega, show t.length ≤ 16777216 by omega]
end Ev

set_option Elab.async false
set_option linter.all false
set_option maxRecDepth 100000
set_option maxHeartbeats 4000000
namespace Ev
open PySem L2 Pf
theorem for_cons {t : Tg} {bd : Rho → Hh → Out} {x : D} {xs : List D} {r r2 r3 : Rho} {h h3 : Hh} (h1 : t.put x r = some r2) (h2 : bd r2 h = .nx r3 h3) : forGo t bd (x :: xs) r h = forGo t bd xs r3 h3 := by
  simp [forGo, h1, h2]
theorem hs_loop (s : Su) (ok : s.Ok) : ∀ (xs : List D) (st : List Si4) (l : List Evt) (t : List Nm) (o : D), St.Ok s st → Row o → Runs s (beg s) [] l st t → l.length + xs.length ≤ 1000 → t.length + xs.length ≤ 1000 →
    ∃ (l' : List Evt) (y : List Si4) (t' : List Nm) (o' : D), St.Ok s y ∧ Row o' ∧ Runs s (beg s) [] l' y t' ∧ l'.length ≤ 1000 ∧ t'.length ≤ 1000 ∧ forGo (.n 3) hsB xs (hsR s .un st l t) [o] = .nx (hsR s .un y l' t') [o']
  | [], st, l, t, o, so, ro, ru, h1, h2 => ⟨l, st, t, o, so, ro, ru, by simpa using h1, by simpa using h2, rfl⟩
  | x :: xs, st, l, t, o, so, ro, ru, h1, h2 => by
    simp only [List.length_cons] at h1 h2
    obtain ⟨e, y, q, o1, eo, c, b, r1, st1⟩ := hs_step s ok (.pl x) st so l t (by omega) (by omega) o ro
    obtain ⟨l', y', t', o', so', ro', ru', g1, g2, e'⟩ := hs_loop s ok xs y (l ++ [e]) (if e.isG then t ++ [q] else t) o1 (beh_ok ok so eo b) r1 (ru.snoc so c) (by simp; omega) (by split <;> (try simp) <;> omega)
    refine ⟨l', y', t', o', so', ro', ru', g1, g2, ?_⟩
    rw [← e']
    exact for_cons rfl st1
theorem dep_Ev (e : Evt) (n : Nat) : dep (n + 1) (dEv e) = true := by cases e <;> simp [dEv, dep, sCL, sGI, sRE]
theorem dep_St (st : List Si4) (n : Nat) : dep (n + 2) (dSt st) = true := by simp [dSt, dep, dSi]
theorem dep_Nm (o : Nm) (n : Nat) : dep (n + 1) (dNm o) = true := by cases o <;> simp [dNm, dO, dN, dep]
theorem at_lhistory (s : Su) (ok : s.Ok) (o : D) (ro : Row o) : ∃ (l : List Evt) (y : List Si4) (t : List Nm) (o' : D), Row o' ∧ Runs s (beg s) [] l y t ∧ l.length ≤ 1000 ∧
    F__law_history [.ref 0, dSc s, .int 40] [o] = .ok (.tup [.lst (l.map dEv), dSt y, .lst (t.map dNm)]) [o'] := by
  obtain ⟨v, o1, r1, hv, tk⟩ := at_taken 41 (by omega) (by omega) o ro
  obtain ⟨l', y', t', o', so', ro', ru', g1, g2, e'⟩ := hs_loop s ok ((List.range ((v : Int)).toNat).map fun (k : Nat) => D.int (k : Int)) (beg s) [] [] o1 (beg_ok ok) r1 .nil (by simp; omega) (by simp; omega)
  refine ⟨l', y', t', o', ro', ru', g1, ?_⟩
  refine (row_of (h := [o]) (i := 0) (h' := []) rfl ro.nr (by simp [nrs, nr_Sc, nr]) rfl (by simp [nr, nrs, nr_St, nrs_map _ nr_Ev, nrs_map _ nr_Nm]) ro'.nr ?_)
  have lb := at_lbegin s ok [o]
  have rg := rng_any (Xp.call "_law_taken" F__law_taken [(Xp.v 0), (Xp.bin .Add (Xo.v 2) ((Xp.c (.int 1))).o)]) (hsR s .un (beg s) [] []) [o] [o1] v (by simp [hsR, semA, on1, on2, binE, tk]) (by unfold rngOk; simp; omega)
  unfold ir__law_history
  have st0 : startR 11 [.ref 0, dSc s, .int 40] = [.pl (.ref 0), .pl (dSc s), .pl (.int 40), .un, .un, .un, .un, .un, .un, .un, .un] := rfl
  rw [st0, ss_s]
  have p1 : (Sm.par [4, 5, 6] [.inl (Xp.call "_law_begin" F__law_begin [(Xp.v 1)]), .inr (Xn.lst []), .inl (Xp.fz (Xn.lst []))]).sem [.pl (.ref 0), .pl (dSc s), .pl (.int 40), .un, .un, .un, .un, .un, .un, .un, .un] [o] = .nx (hsR s .un (beg s) [] []) [o] := by
    simp [semX, Xa.sem, setsX, slOf, semA, lb, line, hsR]
  rw [p1, then_nx, ss_s, ms_for, rg, st_ok]
  show outR ((forGo (.n 3) hsB _ _ _).then _) = _
  rw [e', then_nx]
  simp [hsR, frzR, semA, line]
def anR (s : Su) (w : Sl) (acc : List Si4) : Rho := [.pl (.ref 0), .pl (dSc s), .ow (.lst (acc.map dSi)), w, .un, .un, .un]
def anB : Rho → Hh → Out := semSs [.s (Sm.asg (.n 4) (Xp.bin .Sub ((Xp.call "_law_taken" F__law_taken [(Xp.v 0), (Xp.bin .Add ((Xp.ix (Xo.v 1) ((Xp.c (.int 2))).o)).o ((Xp.c (.int 2))).o)])).o ((Xp.c (.int 1))).o)),
     .s (Sm.asg (.n 5) (Xp.ite (Xt.cmp .GtE (Xo.v 4) ((Xp.c (.int 0))).o) (Xp.call "_law_taken" F__law_taken [(Xp.v 0), (Xp.bin .Add ((Xp.ix (Xo.v 1) ((Xp.c (.int 3))).o)).o ((Xp.c (.int 1))).o)]) (Xp.c (.int 0)))),
     .s (Sm.asg (.n 6) (Xp.ite (Xt.cmp .NotEq ((Xp.ix (Xo.v 3) ((Xp.c (.int 2))).o)).o ((Xp.c (.str [102, 111, 114, 103, 101, 116]))).o) (Xp.bin .Sub ((Xp.call "_law_taken" F__law_taken [(Xp.v 0), (Xp.bin .Add ((Xp.ix (Xo.v 1) ((Xp.c (.int 2))).o)).o ((Xp.c (.int 2))).o)])).o ((Xp.c (.int 1))).o) (Xp.neg (Xp.c (.int 1))))),
     .s (Sm.app 2 (Xp.tup [(Xp.call "_law_taken" F__law_taken [(Xp.v 0), (Xp.bin .Add ((Xp.ix (Xo.v 1) ((Xp.c (.int 2))).o)).o ((Xp.c (.int 1))).o)]), (Xp.v 4), (Xp.v 5), (Xp.v 6)])), .kill [3, 4, 5, 6]]
structure FullP (s : Su) (p : Pl) (x : Si4) : Prop where
  ok : x.Ok s
  c : x.b = -1 → x.c = 0
  d : p.r = .forget → x.d = -1
theorem an_step (s : Su) (ok : s.Ok) (p : Pl) (acc : List Si4) (hl : acc.length ≤ 1000) (o : D) (ro : Row o) : ∃ (x : Si4) (o' : D), FullP s p x ∧ Row o' ∧ anB (anR s (.pl (dW p)) acc) [o] = .nx (anR s .un (acc ++ [x])) [o'] := by
  obtain ⟨o1, o2, t1, t2, l1, l2, o7, o8, o9, o10⟩ := ok
  obtain ⟨a, h1, r1, ha, e1⟩ := at_taken (s.top + 2) (by omega) (by omega) o ro
  have fin : ∀ (c : Int) (h2 : D), Row h2 → 0 ≤ c → c ≤ s.limit → ((a : Int) - 1 = -1 → c = 0) → ∃ (x : Si4) (o' : D) (d : Int) (h3 : D), FullP s p x ∧ Row o' ∧ x.b = (a : Int) - 1 ∧ x.c = c ∧ x.d = d ∧ ((p.r = .forget ∧ d = -1 ∧ h3 = h2) ∨ (p.r ≠ .forget ∧ ∃ v : Nat, d = (v : Int) - 1 ∧ F__law_taken [.ref 0, .int (s.top + 2)] [h2] = .ok (.int v) [h3])) ∧ F__law_taken [.ref 0, .int (s.top + 1)] [h3] = .ok (.int x.a) [o'] := by
    intro c h2 r2 c0 c1 c2
    by_cases q : p.r = .forget
    · obtain ⟨v, h3, r3, hv, e3⟩ := at_taken (s.top + 1) (by omega) (by omega) h2 r2
      exact ⟨⟨v, (a : Int) - 1, c, -1⟩, h3, -1, h2, ⟨⟨by dsimp only; omega, by dsimp only; omega, by dsimp only; omega, by dsimp only; omega, c0, c1, by dsimp only; omega, by dsimp only; omega⟩, c2, fun _ => rfl⟩, r3, rfl, rfl, rfl, .inl ⟨q, rfl, rfl⟩, e3⟩
    · obtain ⟨d, h3, r3, hd, e3⟩ := at_taken (s.top + 2) (by omega) (by omega) h2 r2
      obtain ⟨v, h4, r4, hv, e4⟩ := at_taken (s.top + 1) (by omega) (by omega) h3 r3
      exact ⟨⟨v, (a : Int) - 1, c, (d : Int) - 1⟩, h4, (d : Int) - 1, h3, ⟨⟨by dsimp only; omega, by dsimp only; omega, by dsimp only; omega, by dsimp only; omega, c0, c1, by dsimp only; omega, by dsimp only; omega⟩, c2, fun z => absurd z q⟩, r4, rfl, rfl, rfl, .inr ⟨q, d, rfl, e3⟩, e4⟩
  by_cases hc : (0 : Int) ≤ (a : Int) - 1
  · obtain ⟨c, h2, r2, hc2, e2⟩ := at_taken (s.limit + 1) (by omega) (by omega) h1 r1
    obtain ⟨x, o', d, h3, f, r', xb, xc, xd, dd, e4⟩ := fin c h2 r2 (by omega) (by omega) (by omega)
    refine ⟨x, o', f, r', ?_⟩
    obtain ⟨xa, xb', xc', xd'⟩ := x
    dsimp only at xb xc xd e4
    subst xb xc xd
    unfold anB anR
    rcases dd with ⟨q, rfl, rfl⟩ | ⟨q, v, rfl, e3⟩
    · simp [semA, on1, on2, binE, e1, Tg.put, hc, show (1 : Int) ≤ (a : Int) by omega, show ¬ (a : Int) < 1 by omega, e2, e4, q, line, killR, dSi, show acc.length < 16777216 by omega]
    · simp [semA, on1, on2, binE, e1, Tg.put, hc, show (1 : Int) ≤ (a : Int) by omega, show ¬ (a : Int) < 1 by omega, e2, e3, e4, q, line, killR, dSi, show acc.length < 16777216 by omega]
  · obtain ⟨x, o', d, h3, f, r', xb, xc, xd, dd, e4⟩ := fin 0 h1 r1 (by omega) (by omega) (by omega)
    refine ⟨x, o', f, r', ?_⟩
    obtain ⟨xa, xb', xc', xd'⟩ := x
    dsimp only at xb xc xd e4
    subst xb xc xd
    unfold anB anR
    rcases dd with ⟨q, rfl, rfl⟩ | ⟨q, v, rfl, e3⟩
    · simp [semA, on1, on2, binE, e1, Tg.put, hc, show ¬ (1 : Int) ≤ (a : Int) by omega, show (a : Int) < 1 by omega, e4, q, line, killR, dSi, show acc.length < 16777216 by omega]
    · simp [semA, on1, on2, binE, e1, Tg.put, hc, show ¬ (1 : Int) ≤ (a : Int) by omega, show (a : Int) < 1 by omega, e3, e4, q, line, killR, dSi, show acc.length < 16777216 by omega]
theorem an_loop (s : Su) (ok : s.Ok) : ∀ (ps : List (Pl × Int)) (acc : List Si4) (o : D), Row o → acc.length + ps.length ≤ 1000 →
    ∃ (l : List Si4) (o' : D), Row o' ∧ l.length = ps.length ∧ (∀ (m : Nat) (x : Si4), l[m]? = some x → ∀ p k, ps[m]? = some (p, k) → FullP s p x) ∧ forGo (.n 3) anB (ps.map fun x => dW x.1) (anR s .un acc) [o] = .nx (anR s .un (acc ++ l)) [o']
  | [], acc, o, ro, h1 => ⟨[], o, ro, rfl, fun m x h => by simp at h, by simp [forGo]⟩
  | (p, k) :: ps, acc, o, ro, h1 => by
    simp only [List.length_cons] at h1
    obtain ⟨x, o1, f, r1, e1⟩ := an_step s ok p acc (by omega) o ro
    obtain ⟨l, o2, r2, hl, hf, e2⟩ := an_loop s ok ps (acc ++ [x]) o1 r1 (by simp; omega)
    refine ⟨x :: l, o2, r2, by simp [hl], fun m y hy q k' hq => ?_, ?_⟩
    · cases m with
      | zero => simp at hy hq; obtain ⟨rfl, rfl⟩ := hq; subst hy; exact f
      | succ m => exact hf m y (by simpa using hy) q k' (by simpa using hq)
    · rw [List.append_assoc] at e2
      exact (for_cons rfl e1).trans e2
theorem at_lany (s : Su) (ok : s.Ok) (o : D) (ro : Row o) : ∃ (st : List Si4) (o' : D), Row o' ∧ SFull s st ∧ F__law_any [.ref 0, dSc s] [o] = .ok (dSt st) [o'] := by
  have h2 := ok.l2
  obtain ⟨l, o', r', hl, hf, e⟩ := an_loop s ok s.ps [] o ro (by simp; omega)
  refine ⟨l, o', r', ⟨hl, fun m x hx => ?_⟩, ?_⟩
  · have hm : m < s.ps.length := by rw [← hl]; exact (List.getElem?_eq_some_iff.mp hx).1
    have f := hf m x hx (s.ps[m]).1 (s.ps[m]).2 (by rw [List.getElem?_eq_getElem hm])
    refine ⟨f.ok, f.c, fun p k hp q => ?_⟩
    exact (hf m x hx p k hp).d q
  refine (row_of (h := [o]) (i := 0) (h' := []) rfl ro.nr (by simp [nrs, nr_Sc]) rfl (nr_St _) r'.nr ?_)
  unfold ir__law_any
  have st0 : startR 7 [.ref 0, dSc s] = [.pl (.ref 0), .pl (dSc s), .un, .un, .un, .un, .un] := rfl
  rw [st0, ss_s, ms_asgO, nil_new, st_ok, then_nx, ss_s, ms_for]
  have i1 : (Ib.seq (Xp.ix (Xo.v 1) ((Xp.c (.int 0))).o)).sem (anR s .un []) [o] = .ok (s.ps.map fun x => dW x.1) [o] := by
    simp [anR, on1, on2, items]
  show outR ((((Ib.seq (Xp.ix (Xo.v 1) ((Xp.c (.int 0))).o)).sem (anR s .un []) [o]).st _ _).then _) = _
  rw [i1, st_ok]
  show outR ((forGo (.n 3) anB _ (anR s .un []) _).then _) = _
  rw [e, then_nx]
  simp [anR, semB, onL, vws, biE, items, dSt, line, hl, show s.ps.length ≤ 16777216 by omega]
end Ev

set_option Elab.async false
set_option linter.all false
set_option maxRecDepth 100000
set_option maxHeartbeats 4000000
namespace Ev
open PySem L2 Pf
/-- a loop whose turns leave all as it was -/
theorem for_same {α : Type} {t : Tg} {bd : Rho → Hh → Out} {f : α → D} {R : Rho} {h : Hh} : ∀ (l : List α), (∀ x ∈ l, ∃ r2, t.put (f x) R = some r2 ∧ bd r2 h = .nx R h) → forGo t bd (l.map f) R h = .nx R h
  | [], _ => rfl
  | x :: l, hx => by
    obtain ⟨r2, h1, h2⟩ := hx x List.mem_cons_self
    rw [List.map_cons, for_cons h1 h2]
    exact for_same l fun y hy => hx y (List.mem_cons_of_mem _ hy)
theorem dep_pair (y : List Si4) (o : Nm) : dep 60 (.tup [dSt y, dNm o]) = true := by
  simp only [dep, List.all_cons, List.all_nil, Bool.and_true, dep_St, dep_Nm, Bool.and_self]
theorem dep_ends (y : List Si4) (t : List Nm) : dep 60 (.tup [dSt y, .lst (t.map dNm)]) = true := by
  have e : (t.map dNm).all (dep 58) = true := by
    rw [List.all_map]; exact List.all_eq_true.mpr fun o _ => dep_Nm o 57
  simp only [dep, List.all_cons, List.all_nil, Bool.and_true, dep_St, e, Bool.and_self]
def lwR (ns : List Int) (s : Su) (k : Sl) (ev st tl : D) (he : Sl) (e : Sl) : Rho := [.pl (.lsc (ns.map .int)), .pl (.ref 0), .pl (dSc s), .pl (dSu s), k, .pl ev, .pl st, .pl tl, he, e]
def lwI : Rho → Hh → Out := semSs [.s (Sm.ife (Xt.cmp .NotEq ((Xp.call "after" F_after [(Xp.v 3), (Xp.v 8), (Xp.v 9)])).o ((Xp.call "_law_step" F__law_step [(Xp.v 2), (Xp.v 8), (Xp.v 9)])).o)
        [.s (Sm.ret (Xp.c (.bl false)))]
        []), .kill [9]]
def lwB : Rho → Hh → Out := semSs [.s (Sm.asg (.n 8) (Xp.call "_law_any" F__law_any [(Xp.v 1), (Xp.v 2)])),
     .s (Sm.for_ (.n 9) (Ib.seq (Xp.call "_law_events" F__law_events [(Xp.v 2), (Xp.v 8)]))
      [.s (Sm.ife (Xt.cmp .NotEq ((Xp.call "after" F_after [(Xp.v 3), (Xp.v 8), (Xp.v 9)])).o ((Xp.call "_law_step" F__law_step [(Xp.v 2), (Xp.v 8), (Xp.v 9)])).o)
        [.s (Sm.ret (Xp.c (.bl false)))]
        []), .kill [9]]), .kill [4, 8, 9]]
theorem lw_in (ns : List Int) (s : Su) (ok : s.Ok) (k : Sl) (ev st0 tl : D) (st : List Si4) (f : SFull s st) (e : Evt) (he : e ∈ evs s st) (o : D) : lwI (lwR ns s k ev st0 tl (.pl (dSt st)) (.pl (dEv e))) [o] = .nx (lwR ns s k ev st0 tl (.pl (dSt st)) .un) [o] := by
  obtain ⟨y, q, c, b⟩ := can_of ok f.ok he
  have e1 := at_after s ok st f e y q c [o]
  have e2 := at_lstep' ok f.ok b [o]
  have e3 := ne_same (dep_pair y q)
  unfold lwI lwR
  simp [semA, e1, e2, on1, on2, e3, killR]
theorem lw_step (ns : List Int) (s : Su) (ok : s.Ok) (k : Sl) (ev st0 tl : D) (o : D) (ro : Row o) : ∃ o', Row o' ∧ lwB (lwR ns s k ev st0 tl .un .un) [o] = .nx (lwR ns s .un ev st0 tl .un .un) [o'] := by
  obtain ⟨st, o', r', f, e⟩ := at_lany s ok o ro
  refine ⟨o', r', ?_⟩
  have hl : st.length ≤ 2 := by rw [f.1]; exact ok.l2
  have ev1 := at_levents s ok st hl [o']
  have key := for_same (t := .n 9) (bd := lwI) (f := dEv) (R := lwR ns s k ev st0 tl (.pl (dSt st)) .un) (h := [o']) (evs s st) fun e he => ⟨_, rfl, lw_in ns s ok k ev st0 tl st f e he o'⟩
  unfold lwI lwR at key
  unfold lwB lwR
  simp [semA, e, Tg.put, ev1, items, key, killR]
theorem lw_loop (ns : List Int) (s : Su) (ok : s.Ok) (ev st0 tl : D) : ∀ (xs : List D) (o : D), Row o → ∃ o', Row o' ∧ forGo (.n 4) lwB xs (lwR ns s .un ev st0 tl .un .un) [o] = .nx (lwR ns s .un ev st0 tl .un .un) [o']
  | [], o, ro => ⟨o, ro, rfl⟩
  | x :: xs, o, ro => by
    obtain ⟨o1, r1, e1⟩ := lw_step ns s ok (.pl x) ev st0 tl o ro
    obtain ⟨o2, r2, e2⟩ := lw_loop ns s ok ev st0 tl xs o1 r1
    exact ⟨o2, r2, (for_cons rfl e1).trans e2⟩
/-- from the set-up on -/
def lwT : List Si := [.s (Sm.asg (.n 3) (Xp.call "_law_setup" F__law_setup [(Xp.v 2)])),
   .s (Sm.ife (Xt.cmp .NotEq ((Xp.call "begin" F_begin [(Xp.v 3)])).o ((Xp.call "_law_begin" F__law_begin [(Xp.v 2)])).o)
    [.s (Sm.ret (Xp.c (.bl false)))]
    []),
   .s (Sm.asg (.tu [(.n 5), (.n 6), (.n 7)]) (Xp.call "_law_history" F__law_history [(Xp.v 1), (Xp.v 2), (Xp.c (.int 40))])),
   .s (Sm.ife (Xt.cmp .NotEq ((Xp.call "run" F_run [(Xp.v 3), (Xp.v 5)])).o ((Xp.tup [(Xp.v 6), (Xp.v 7)])).o)
    [.s (Sm.ret (Xp.c (.bl false)))]
    []),
   .s (Sm.for_ (.n 4) (Ib.r1 (Xp.c (.int 6)))
    [.s (Sm.asg (.n 8) (Xp.call "_law_any" F__law_any [(Xp.v 1), (Xp.v 2)])),
     .s (Sm.for_ (.n 9) (Ib.seq (Xp.call "_law_events" F__law_events [(Xp.v 2), (Xp.v 8)]))
      [.s (Sm.ife (Xt.cmp .NotEq ((Xp.call "after" F_after [(Xp.v 3), (Xp.v 8), (Xp.v 9)])).o ((Xp.call "_law_step" F__law_step [(Xp.v 2), (Xp.v 8), (Xp.v 9)])).o)
        [.s (Sm.ret (Xp.c (.bl false)))]
        []), .kill [9]]), .kill [4, 8, 9]]),
   .s (Sm.ret (Xp.cmp .Eq ((Xp.call "run" F_run [(Xp.v 3), (Xp.fz (Xn.lst []))])).o ((Xp.tup [(Xp.call "_law_begin" F__law_begin [(Xp.v 2)]), (Xp.fz (Xn.lst []))])).o))]
theorem lw_tail (ns : List Int) (s : Su) (sc : Sch s) (o : D) (ro : Row o) : ∃ h', semSs lwT [.pl (.lsc (ns.map .int)), .pl (.ref 0), .pl (dSc s), .un, .un, .un, .un, .un, .un, .un] [o] = .rt (.bl true) h' := by
  have ok := sc.ok
  obtain ⟨l, y, t, o1, r1, ru, hl, e1⟩ := at_lhistory s ok o ro
  have e2 := at_run s ok l hl y t ru [o1]
  have e3 := ne_same (dep_ends y t)
  obtain ⟨o2, r2, e4⟩ := lw_loop ns s ok (.lst (l.map dEv)) (dSt y) (.lst (t.map dNm)) ((List.range (6 : Int).toNat).map fun (k : Nat) => D.int (k : Int)) o1 r1
  have e5 := at_run s ok [] (by simp) (beg s) [] .nil [o2]
  have e6 := eq_same (dep_ends (beg s) [])
  have e7 := ne_same (dep_St (beg s) 58)
  have b1 := at_begin s ok [o]
  have b2 := at_lbegin s ok [o]
  have b3 := at_lbegin s ok [o2]
  have su := at_setup s sc [o]
  refine ⟨[o2], ?_⟩
  have rg := rng_any (Xp.c (.int 6)) (lwR ns s .un (.lst (l.map dEv)) (dSt y) (.lst (t.map dNm)) .un .un) [o1] [o1] 6 rfl (by decide)
  unfold lwT
  rw [ss_s]
  have p1 : (Sm.asg (.n 3) (Xp.call "_law_setup" F__law_setup [(Xp.v 2)])).sem [.pl (.lsc (ns.map .int)), .pl (.ref 0), .pl (dSc s), .un, .un, .un, .un, .un, .un, .un] [o] = .nx [.pl (.lsc (ns.map .int)), .pl (.ref 0), .pl (dSc s), .pl (dSu s), .un, .un, .un, .un, .un, .un] [o] := by
    simp [semA, su, Tg.put]
  rw [p1, then_nx, ss_s]
  have p2 : (Sm.ife (Xt.cmp .NotEq ((Xp.call "begin" F_begin [(Xp.v 3)])).o ((Xp.call "_law_begin" F__law_begin [(Xp.v 2)])).o)
    [.s (Sm.ret (Xp.c (.bl false)))]
    []).sem [.pl (.lsc (ns.map .int)), .pl (.ref 0), .pl (dSc s), .pl (dSu s), .un, .un, .un, .un, .un, .un] [o] = .nx [.pl (.lsc (ns.map .int)), .pl (.ref 0), .pl (dSc s), .pl (dSu s), .un, .un, .un, .un, .un, .un] [o] := by
    simp [semA, b1, b2, on1, on2, e7]
  rw [p2, then_nx, ss_s]
  have p3 : (Sm.asg (.tu [(.n 5), (.n 6), (.n 7)]) (Xp.call "_law_history" F__law_history [(Xp.v 1), (Xp.v 2), (Xp.c (.int 40))])).sem [.pl (.lsc (ns.map .int)), .pl (.ref 0), .pl (dSc s), .pl (dSu s), .un, .un, .un, .un, .un, .un] [o] = .nx (lwR ns s .un (.lst (l.map dEv)) (dSt y) (.lst (t.map dNm)) .un .un) [o1] := by
    simp [semA, e1, Tg.put, Tg.puts, lwR]
  rw [p3, then_nx, ss_s]
  have p4 : (Sm.ife (Xt.cmp .NotEq ((Xp.call "run" F_run [(Xp.v 3), (Xp.v 5)])).o ((Xp.tup [(Xp.v 6), (Xp.v 7)])).o)
    [.s (Sm.ret (Xp.c (.bl false)))]
    []).sem (lwR ns s .un (.lst (l.map dEv)) (dSt y) (.lst (t.map dNm)) .un .un) [o1] = .nx (lwR ns s .un (.lst (l.map dEv)) (dSt y) (.lst (t.map dNm)) .un .un) [o1] := by
    simp [semA, lwR, e2, on1, on2, e3, line]
  rw [p4, then_nx, ss_s, ms_for, rg, st_ok]
  show (forGo (.n 4) lwB _ _ _).then _ = _
  rw [e4, then_nx]
  simp only [List.map_nil] at e5 e6
  simp [lwR, semA, e5, b3, on1, on2, line, ofB, e6]
theorem cut_h (l : List D) (n : Nat) : cutD l none (some (n : Int)) = l.take n := cut_to l n
theorem law_true (ns : List Int) (hn : ns.length ≤ 63) : ∃ h', F_law [.lsc (ns.map .int)] [] = .ok (.bl true) h' := by
  have r0 : Row (mkRow ns 0 0 0) := ⟨ns, 0, 0, 0, rfl, by omega, by omega, by omega, by omega, by omega⟩
  obtain ⟨s, o1, r1, sc, e1⟩ := at_scheme _ r0
  obtain ⟨v, o2, r2, hv, e2⟩ := at_taken 2 (by omega) (by omega) o1 r1
  refine ⟨[], ?_⟩
  have st0 : startR 10 [.lsc (ns.map .int)] = [.pl (.lsc (ns.map .int)), .un, .un, .un, .un, .un, .un, .un, .un, .un] := rfl
  have pre : ∃ (s : Su) (o : D), Sch s ∧ Row o ∧ semSs ir_law (startR 10 [.lsc (ns.map .int)]) [] = (Out.nx [.pl (.lsc (ns.map .int)), .pl (.ref 0), .pl (dSc s), .un, .un, .un, .un, .un, .un, .un] [o]).then (semSs lwT) := by
    have q1 : (Sm.asg (.n 1) (Xp.hp (Xn.lst [(Xp.v 0), (Xp.c (.int 0)), (Xp.c (.int 0)), (Xp.c (.int 0))]))).sem [.pl (.lsc (ns.map .int)), .un, .un, .un, .un, .un, .un, .un, .un, .un] [] = .nx [.pl (.lsc (ns.map .int)), .pl (.ref 0), .un, .un, .un, .un, .un, .un, .un, .un] [mkRow ns 0 0 0] := by
      simp [semA, line, Tg.put, mkRow]
    have q2 : (Sm.asg (.n 2) (Xp.call "_law_scheme" F__law_scheme [(Xp.v 1), (Xp.c (.int 2))])).sem [.pl (.lsc (ns.map .int)), .pl (.ref 0), .un, .un, .un, .un, .un, .un, .un, .un] [mkRow ns 0 0 0] = .nx [.pl (.lsc (ns.map .int)), .pl (.ref 0), .pl (dSc s), .un, .un, .un, .un, .un, .un, .un] [o1] := by
      simp [semA, e1, Tg.put]
    have hv : v = 0 ∨ v = 1 := by omega
    rcases hv with rfl | rfl
    · obtain ⟨t, o3, r3, ht, e3⟩ := at_taken 2 (by omega) (by omega) o2 r2
      obtain ⟨l, o4, r4, hl, e4⟩ := at_taken 2 (by omega) (by omega) o3 r3
      have ok := sc.ok
      refine ⟨⟨s.ps, 1 + t, l, s.back, s.ahead⟩, o4, ⟨⟨ok.l1, ok.l2, by dsimp only; omega, by dsimp only; omega, by dsimp only; omega, by dsimp only; omega, ok.b1, ok.b2, ok.a1, ok.a2⟩, sc.marks⟩, r4, ?_⟩
      rw [st0]
      unfold ir_law
      rw [ss_s, q1, then_nx, ss_s, q2, then_nx, ss_s]
      have s1 : slE (dSc s) none (some 2) = some (.tup [.tup (s.ps.map fun x => dW x.1), .tup (s.ps.map fun x => .int x.2)]) := by
        simp only [slE, dSc]
        rw [show (2 : Int) = ((2 : Nat) : Int) by rfl, cut_to]; rfl
      have s2 : slE (dSc s) (some 4) none = some (.tup [.int s.back, .int s.ahead]) := by
        simp only [slE, dSc]
        rw [show (4 : Int) = ((4 : Nat) : Int) by rfl, cut_from]; rfl
      have q3 : ∀ a b, (Sm.ife (Xt.cmp .Eq ((Xp.call "_law_taken" F__law_taken [(Xp.v 1), (Xp.c (.int 2))])).o ((Xp.c (.int 0))).o) a b).sem [.pl (.lsc (ns.map .int)), .pl (.ref 0), .pl (dSc s), .un, .un, .un, .un, .un, .un, .un] [o1] = semSs a [.pl (.lsc (ns.map .int)), .pl (.ref 0), .pl (dSc s), .un, .un, .un, .un, .un, .un, .un] [o2] := fun a b => by
        simp [semA, e2, on1, on2, cmp_eq_int]
      rw [q3]
      simp [semA, semO, e3, e4, on1, on2, s1, s2, binE, line, Tg.put]
      rfl
    · refine ⟨s, o2, sc, r2, ?_⟩
      rw [st0]
      unfold ir_law
      rw [ss_s, q1, then_nx, ss_s, q2, then_nx, ss_s]
      have q3 : ∀ a b, (Sm.ife (Xt.cmp .Eq ((Xp.call "_law_taken" F__law_taken [(Xp.v 1), (Xp.c (.int 2))])).o ((Xp.c (.int 0))).o) a b).sem [.pl (.lsc (ns.map .int)), .pl (.ref 0), .pl (dSc s), .un, .un, .un, .un, .un, .un, .un] [o1] = semSs b [.pl (.lsc (ns.map .int)), .pl (.ref 0), .pl (dSc s), .un, .un, .un, .un, .un, .un, .un] [o2] := fun a b => by
        simp [semA, e2, on1, on2, cmp_eq_int]
      rw [q3]
      rfl
  obtain ⟨s', o', sc', ro', e'⟩ := pre
  obtain ⟨hh, eh⟩ := lw_tail ns s' sc' o' ro'
  exact pure_of (h' := hh) (by simp [nrs, nr, nrs_map D.int (fun _ => rfl)]) rfl rfl (by rw [e', then_nx, eh]; rfl)
end Ev

set_option Elab.async false
set_option linter.all false
set_option maxRecDepth 100000
set_option maxHeartbeats 4000000
namespace Ev
open PySem L2 Pf
def top (i : Nat) : Stmt := PySem.Challenge.pw_manymakers_k03_whole_events_one_by_one.main.body.getD i (.Pass ⟨0, 0, 0, 0⟩)
abbrev st_is_number : Stmt := top 15
theorem sc_is_number : FnScope N_is_number P_is_number (defScope st_is_number) := ⟨rfl, rfl, rfl, by decide +kernel, rfl, by decide +kernel, by decide +kernel⟩
theorem ok_is_number : okSs ir_is_number ⟨N_is_number, defScope st_is_number, false⟩ (defBody st_is_number) = true := by decide +kernel
abbrev st_Plan___init__ : Stmt := inClass (top 16) 1
theorem sc_Plan___init__ : FnScope N_Plan___init__ P_Plan___init__ (defScope st_Plan___init__) := ⟨rfl, rfl, rfl, by decide +kernel, rfl, by decide +kernel, by decide +kernel⟩
theorem ok_Plan___init__ : okSs ir_Plan___init__ ⟨N_Plan___init__, defScope st_Plan___init__, false⟩ (defBody st_Plan___init__) = true := by decide +kernel
abbrev st_Plan_on_back : Stmt := inClass (top 16) 2
theorem sc_Plan_on_back : FnScope N_Plan_on_back P_Plan_on_back (defScope st_Plan_on_back) := ⟨rfl, rfl, rfl, by decide +kernel, rfl, by decide +kernel, by decide +kernel⟩
theorem ok_Plan_on_back : okSs ir_Plan_on_back ⟨N_Plan_on_back, defScope st_Plan_on_back, false⟩ (defBody st_Plan_on_back) = true := by decide +kernel
abbrev st_Plan_on_full : Stmt := inClass (top 16) 3
theorem sc_Plan_on_full : FnScope N_Plan_on_full P_Plan_on_full (defScope st_Plan_on_full) := ⟨rfl, rfl, rfl, by decide +kernel, rfl, by decide +kernel, by decide +kernel⟩
theorem ok_Plan_on_full : okSs ir_Plan_on_full ⟨N_Plan_on_full, defScope st_Plan_on_full, false⟩ (defBody st_Plan_on_full) = true := by decide +kernel
abbrev st_Plan_on_restart : Stmt := inClass (top 16) 4
theorem sc_Plan_on_restart : FnScope N_Plan_on_restart P_Plan_on_restart (defScope st_Plan_on_restart) := ⟨rfl, rfl, rfl, by decide +kernel, rfl, by decide +kernel, by decide +kernel⟩
theorem ok_Plan_on_restart : okSs ir_Plan_on_restart ⟨N_Plan_on_restart, defScope st_Plan_on_restart, false⟩ (defBody st_Plan_on_restart) = true := by decide +kernel
abbrev st_check_ranges : Stmt := top 17
theorem sc_check_ranges : FnScope N_check_ranges P_check_ranges (defScope st_check_ranges) := ⟨rfl, rfl, rfl, by decide +kernel, rfl, by decide +kernel, by decide +kernel⟩
theorem ok_check_ranges : okSs ir_check_ranges ⟨N_check_ranges, defScope st_check_ranges, false⟩ (defBody st_check_ranges) = true := by decide +kernel
abbrev st_Setup___init__ : Stmt := inClass (top 18) 1
theorem sc_Setup___init__ : FnScope N_Setup___init__ P_Setup___init__ (defScope st_Setup___init__) := ⟨rfl, rfl, rfl, by decide +kernel, rfl, by decide +kernel, by decide +kernel⟩
theorem ok_Setup___init__ : okSs ir_Setup___init__ ⟨N_Setup___init__, defScope st_Setup___init__, false⟩ (defBody st_Setup___init__) = true := by decide +kernel
abbrev st_Setup_plans : Stmt := inClass (top 18) 2
theorem sc_Setup_plans : FnScope N_Setup_plans P_Setup_plans (defScope st_Setup_plans) := ⟨rfl, rfl, rfl, by decide +kernel, rfl, by decide +kernel, by decide +kernel⟩
theorem ok_Setup_plans : okSs ir_Setup_plans ⟨N_Setup_plans, defScope st_Setup_plans, false⟩ (defBody st_Setup_plans) = true := by decide +kernel
abbrev st_Setup_marks : Stmt := inClass (top 18) 3
theorem sc_Setup_marks : FnScope N_Setup_marks P_Setup_marks (defScope st_Setup_marks) := ⟨rfl, rfl, rfl, by decide +kernel, rfl, by decide +kernel, by decide +kernel⟩
theorem ok_Setup_marks : okSs ir_Setup_marks ⟨N_Setup_marks, defScope st_Setup_marks, false⟩ (defBody st_Setup_marks) = true := by decide +kernel
abbrev st_Setup_top : Stmt := inClass (top 18) 4
theorem sc_Setup_top : FnScope N_Setup_top P_Setup_top (defScope st_Setup_top) := ⟨rfl, rfl, rfl, by decide +kernel, rfl, by decide +kernel, by decide +kernel⟩
theorem ok_Setup_top : okSs ir_Setup_top ⟨N_Setup_top, defScope st_Setup_top, false⟩ (defBody st_Setup_top) = true := by decide +kernel
abbrev st_Setup_limit : Stmt := inClass (top 18) 5
theorem sc_Setup_limit : FnScope N_Setup_limit P_Setup_limit (defScope st_Setup_limit) := ⟨rfl, rfl, rfl, by decide +kernel, rfl, by decide +kernel, by decide +kernel⟩
theorem ok_Setup_limit : okSs ir_Setup_limit ⟨N_Setup_limit, defScope st_Setup_limit, false⟩ (defBody st_Setup_limit) = true := by decide +kernel
abbrev st_Setup_back : Stmt := inClass (top 18) 6
theorem sc_Setup_back : FnScope N_Setup_back P_Setup_back (defScope st_Setup_back) := ⟨rfl, rfl, rfl, by decide +kernel, rfl, by decide +kernel, by decide +kernel⟩
theorem ok_Setup_back : okSs ir_Setup_back ⟨N_Setup_back, defScope st_Setup_back, false⟩ (defBody st_Setup_back) = true := by decide +kernel
abbrev st_Setup_ahead : Stmt := inClass (top 18) 7
theorem sc_Setup_ahead : FnScope N_Setup_ahead P_Setup_ahead (defScope st_Setup_ahead) := ⟨rfl, rfl, rfl, by decide +kernel, rfl, by decide +kernel, by decide +kernel⟩
theorem ok_Setup_ahead : okSs ir_Setup_ahead ⟨N_Setup_ahead, defScope st_Setup_ahead, false⟩ (defBody st_Setup_ahead) = true := by decide +kernel
abbrev st_Setup___len__ : Stmt := inClass (top 18) 8
theorem sc_Setup___len__ : FnScope N_Setup___len__ P_Setup___len__ (defScope st_Setup___len__) := ⟨rfl, rfl, rfl, by decide +kernel, rfl, by decide +kernel, by decide +kernel⟩
theorem ok_Setup___len__ : okSs ir_Setup___len__ ⟨N_Setup___len__, defScope st_Setup___len__, false⟩ (defBody st_Setup___len__) = true := by decide +kernel
abbrev st_begin : Stmt := top 25
theorem sc_begin : FnScope N_begin P_begin (defScope st_begin) := ⟨rfl, rfl, rfl, by decide +kernel, rfl, by decide +kernel, by decide +kernel⟩
theorem ok_begin : okSs ir_begin ⟨N_begin, defScope st_begin, false⟩ (defBody st_begin) = true := by decide +kernel
abbrev st_is_single : Stmt := top 26
theorem sc_is_single : FnScope N_is_single P_is_single (defScope st_is_single) := ⟨rfl, rfl, rfl, by decide +kernel, rfl, by decide +kernel, by decide +kernel⟩
theorem ok_is_single : okSs ir_is_single ⟨N_is_single, defScope st_is_single, false⟩ (defBody st_is_single) = true := by decide +kernel
abbrev st_check_standing : Stmt := top 27
theorem sc_check_standing : FnScope N_check_standing P_check_standing (defScope st_check_standing) := ⟨rfl, rfl, rfl, by decide +kernel, rfl, by decide +kernel, by decide +kernel⟩
theorem ok_check_standing : okSs ir_check_standing ⟨N_check_standing, defScope st_check_standing, false⟩ (defBody st_check_standing) = true := by decide +kernel
abbrev st_next_number : Stmt := top 28
theorem sc_next_number : FnScope N_next_number P_next_number (defScope st_next_number) := ⟨rfl, rfl, rfl, by decide +kernel, rfl, by decide +kernel, by decide +kernel⟩
theorem ok_next_number : okSs ir_next_number ⟨N_next_number, defScope st_next_number, false⟩ (defBody st_next_number) = true := by decide +kernel
abbrev st_giving : Stmt := top 29
theorem sc_giving : FnScope N_giving P_giving (defScope st_giving) := ⟨rfl, rfl, rfl, by decide +kernel, rfl, by decide +kernel, by decide +kernel⟩
theorem ok_giving : okSs ir_giving ⟨N_giving, defScope st_giving, false⟩ (defBody st_giving) = true := by decide +kernel
abbrev st_restarted : Stmt := top 30
theorem sc_restarted : FnScope N_restarted P_restarted (defScope st_restarted) := ⟨rfl, rfl, rfl, by decide +kernel, rfl, by decide +kernel, by decide +kernel⟩
theorem ok_restarted : okSs ir_restarted ⟨N_restarted, defScope st_restarted, false⟩ (defBody st_restarted) = true := by decide +kernel
abbrev st_readings : Stmt := top 31
theorem sc_readings : FnScope N_readings P_readings (defScope st_readings) := ⟨rfl, rfl, rfl, by decide +kernel, rfl, by decide +kernel, by decide +kernel⟩
theorem ok_readings : okSs ir_readings ⟨N_readings, defScope st_readings, false⟩ (defBody st_readings) = true := by decide +kernel
abbrev st_single_moves : Stmt := top 32
theorem sc_single_moves : FnScope N_single_moves P_single_moves (defScope st_single_moves) := ⟨rfl, rfl, rfl, by decide +kernel, rfl, by decide +kernel, by decide +kernel⟩
theorem ok_single_moves : okSs ir_single_moves ⟨N_single_moves, defScope st_single_moves, false⟩ (defBody st_single_moves) = true := by decide +kernel
abbrev st_first_of : Stmt := top 34
theorem sc_first_of : FnScope N_first_of P_first_of (defScope st_first_of) := ⟨rfl, rfl, rfl, by decide +kernel, rfl, by decide +kernel, by decide +kernel⟩
theorem ok_first_of : okSs ir_first_of ⟨N_first_of, defScope st_first_of, false⟩ (defBody st_first_of) = true := by decide +kernel
abbrev st_all_moves : Stmt := top 33
theorem sc_all_moves : FnScope N_all_moves P_all_moves (defScope st_all_moves) := ⟨rfl, rfl, rfl, by decide +kernel, rfl, by decide +kernel, by decide +kernel⟩
theorem ok_all_moves : okSs ir_all_moves ⟨N_all_moves, defScope st_all_moves, false⟩ (defBody st_all_moves) = true := by decide +kernel
abbrev st_is_word : Stmt := top 35
theorem sc_is_word : FnScope N_is_word P_is_word (defScope st_is_word) := ⟨rfl, rfl, rfl, by decide +kernel, rfl, by decide +kernel, by decide +kernel⟩
theorem ok_is_word : okSs ir_is_word ⟨N_is_word, defScope st_is_word, false⟩ (defBody st_is_word) = true := by decide +kernel
abbrev st_move : Stmt := top 36
theorem sc_move : FnScope N_move P_move (defScope st_move) := ⟨rfl, rfl, rfl, by decide +kernel, rfl, by decide +kernel, by decide +kernel⟩
theorem ok_move : okSs ir_move ⟨N_move, defScope st_move, false⟩ (defBody st_move) = true := by decide +kernel
abbrev st_after : Stmt := top 37
theorem sc_after : FnScope N_after P_after (defScope st_after) := ⟨rfl, rfl, rfl, by decide +kernel, rfl, by decide +kernel, by decide +kernel⟩
theorem ok_after : okSs ir_after ⟨N_after, defScope st_after, false⟩ (defBody st_after) = true := by decide +kernel
abbrev st_run : Stmt := top 38
theorem sc_run : FnScope N_run P_run (defScope st_run) := ⟨rfl, rfl, rfl, by decide +kernel, rfl, by decide +kernel, by decide +kernel⟩
theorem ok_run : okSs ir_run ⟨N_run, defScope st_run, false⟩ (defBody st_run) = true := by decide +kernel
abbrev st__law_taken : Stmt := top 40
theorem sc__law_taken : FnScope N__law_taken P__law_taken (defScope st__law_taken) := ⟨rfl, rfl, rfl, by decide +kernel, rfl, by decide +kernel, by decide +kernel⟩
theorem ok__law_taken : okSs ir__law_taken ⟨N__law_taken, defScope st__law_taken, false⟩ (defBody st__law_taken) = true := by decide +kernel
abbrev st__law_pick : Stmt := top 41
theorem sc__law_pick : FnScope N__law_pick P__law_pick (defScope st__law_pick) := ⟨rfl, rfl, rfl, by decide +kernel, rfl, by decide +kernel, by decide +kernel⟩
theorem ok__law_pick : okSs ir__law_pick ⟨N__law_pick, defScope st__law_pick, false⟩ (defBody st__law_pick) = true := by decide +kernel
abbrev st__law_words : Stmt := top 42
theorem sc__law_words : FnScope N__law_words P__law_words (defScope st__law_words) := ⟨rfl, rfl, rfl, by decide +kernel, rfl, by decide +kernel, by decide +kernel⟩
theorem ok__law_words : okSs ir__law_words ⟨N__law_words, defScope st__law_words, false⟩ (defBody st__law_words) = true := by decide +kernel
abbrev st__law_scheme : Stmt := top 43
theorem sc__law_scheme : FnScope N__law_scheme P__law_scheme (defScope st__law_scheme) := ⟨rfl, rfl, rfl, by decide +kernel, rfl, by decide +kernel, by decide +kernel⟩
theorem ok__law_scheme : okSs ir__law_scheme ⟨N__law_scheme, defScope st__law_scheme, false⟩ (defBody st__law_scheme) = true := by decide +kernel
abbrev st__law_setup : Stmt := top 44
theorem sc__law_setup : FnScope N__law_setup P__law_setup (defScope st__law_setup) := ⟨rfl, rfl, rfl, by decide +kernel, rfl, by decide +kernel, by decide +kernel⟩
theorem ok__law_setup : okSs ir__law_setup ⟨N__law_setup, defScope st__law_setup, false⟩ (defBody st__law_setup) = true := by decide +kernel
abbrev st__law_give : Stmt := top 45
theorem sc__law_give : FnScope N__law_give P__law_give (defScope st__law_give) := ⟨rfl, rfl, rfl, by decide +kernel, rfl, by decide +kernel, by decide +kernel⟩
theorem ok__law_give : okSs ir__law_give ⟨N__law_give, defScope st__law_give, false⟩ (defBody st__law_give) = true := by decide +kernel
abbrev st__law_step : Stmt := top 46
theorem sc__law_step : FnScope N__law_step P__law_step (defScope st__law_step) := ⟨rfl, rfl, rfl, by decide +kernel, rfl, by decide +kernel, by decide +kernel⟩
theorem ok__law_step : okSs ir__law_step ⟨N__law_step, defScope st__law_step, false⟩ (defBody st__law_step) = true := by decide +kernel
abbrev st__law_events : Stmt := top 47
theorem sc__law_events : FnScope N__law_events P__law_events (defScope st__law_events) := ⟨rfl, rfl, rfl, by decide +kernel, rfl, by decide +kernel, by decide +kernel⟩
theorem ok__law_events : okSs ir__law_events ⟨N__law_events, defScope st__law_events, false⟩ (defBody st__law_events) = true := by decide +kernel
abbrev st__law_begin : Stmt := top 48
theorem sc__law_begin : FnScope N__law_begin P__law_begin (defScope st__law_begin) := ⟨rfl, rfl, rfl, by decide +kernel, rfl, by decide +kernel, by decide +kernel⟩
theorem ok__law_begin : okSs ir__law_begin ⟨N__law_begin, defScope st__law_begin, false⟩ (defBody st__law_begin) = true := by decide +kernel
abbrev st__law_history : Stmt := top 49
theorem sc__law_history : FnScope N__law_history P__law_history (defScope st__law_history) := ⟨rfl, rfl, rfl, by decide +kernel, rfl, by decide +kernel, by decide +kernel⟩
theorem ok__law_history : okSs ir__law_history ⟨N__law_history, defScope st__law_history, false⟩ (defBody st__law_history) = true := by decide +kernel
abbrev st__law_any : Stmt := top 50
theorem sc__law_any : FnScope N__law_any P__law_any (defScope st__law_any) := ⟨rfl, rfl, rfl, by decide +kernel, rfl, by decide +kernel, by decide +kernel⟩
theorem ok__law_any : okSs ir__law_any ⟨N__law_any, defScope st__law_any, false⟩ (defBody st__law_any) = true := by decide +kernel
abbrev st_law : Stmt := top 51
theorem sc_law : FnScope N_law P_law (defScope st_law) := ⟨rfl, rfl, rfl, by decide +kernel, rfl, by decide +kernel, by decide +kernel⟩
theorem ok_law : okSs ir_law ⟨N_law, defScope st_law, false⟩ (defBody st_law) = true := by decide +kernel
structure Txt (K : PySem.W.Frag) (mg : Str → Option Value) (C0 C1 : Addr) : Prop where
  mc0 : mg (nmC 0) = some (.ref C0)
  sc0 : SlX.SCls K C0
  mk0 : PySem.W.makesIn K C0 = true
  kc0 : PySem.W.keepIn K (.ref C0) = true
  mc1 : mg (nmC 1) = some (.ref C1)
  sc1 : SlX.SCls K C1
  mk1 : PySem.W.makesIn K C1 = true
  kc1 : PySem.W.keepIn K (.ref C1) = true
  fl0_0 : ∃ p, SlX.Slot1 K C0 (nmF 0) p 0
  fl1_1 : ∃ p, SlX.Slot1 K C1 (nmF 1) p 0
  fl1_2 : ∃ p, SlX.Slot1 K C1 (nmF 2) p 1
  d_is_number : DefAt K mg "is_number" st_is_number
  d_Plan___init__ : MemAt K C0 "__init__" "Plan.__init__" st_Plan___init__
  d_Plan_on_back : PropAt K C0 "on_back" "Plan.on_back" st_Plan_on_back
  d_Plan_on_full : PropAt K C0 "on_full" "Plan.on_full" st_Plan_on_full
  d_Plan_on_restart : PropAt K C0 "on_restart" "Plan.on_restart" st_Plan_on_restart
  d_check_ranges : DefAt K mg "check_ranges" st_check_ranges
  d_Setup___init__ : MemAt K C1 "__init__" "Setup.__init__" st_Setup___init__
  d_Setup_plans : PropAt K C1 "plans" "Setup.plans" st_Setup_plans
  d_Setup_marks : PropAt K C1 "marks" "Setup.marks" st_Setup_marks
  d_Setup_top : PropAt K C1 "top" "Setup.top" st_Setup_top
  d_Setup_limit : PropAt K C1 "limit" "Setup.limit" st_Setup_limit
  d_Setup_back : PropAt K C1 "back" "Setup.back" st_Setup_back
  d_Setup_ahead : PropAt K C1 "ahead" "Setup.ahead" st_Setup_ahead
  d_Setup___len__ : MemAt K C1 "__len__" "Setup.__len__" st_Setup___len__
  d_begin : DefAt K mg "begin" st_begin
  d_is_single : DefAt K mg "is_single" st_is_single
  d_check_standing : DefAt K mg "check_standing" st_check_standing
  d_next_number : DefAt K mg "next_number" st_next_number
  d_giving : DefAt K mg "giving" st_giving
  d_restarted : DefAt K mg "restarted" st_restarted
  d_readings : DefAt K mg "readings" st_readings
  d_single_moves : DefAt K mg "single_moves" st_single_moves
  d_first_of : DefAt K mg "first_of" st_first_of
  d_all_moves : DefAt K mg "all_moves" st_all_moves
  d_is_word : DefAt K mg "is_word" st_is_word
  d_move : DefAt K mg "move" st_move
  d_after : DefAt K mg "after" st_after
  d_run : DefAt K mg "run" st_run
  d__law_taken : DefAt K mg "_law_taken" st__law_taken
  d__law_pick : DefAt K mg "_law_pick" st__law_pick
  d__law_words : DefAt K mg "_law_words" st__law_words
  d__law_scheme : DefAt K mg "_law_scheme" st__law_scheme
  d__law_setup : DefAt K mg "_law_setup" st__law_setup
  d__law_give : DefAt K mg "_law_give" st__law_give
  d__law_step : DefAt K mg "_law_step" st__law_step
  d__law_events : DefAt K mg "_law_events" st__law_events
  d__law_begin : DefAt K mg "_law_begin" st__law_begin
  d__law_history : DefAt K mg "_law_history" st__law_history
  d__law_any : DefAt K mg "_law_any" st__law_any
  d_law : DefAt K mg "law" st_law
  b_all : mg "all" = none
  b_bool : mg "bool" = none
  b_enumerate : mg "enumerate" = none
  b_int : mg "int" = none
  b_isinstance : mg "isinstance" = none
  b_len : mg "len" = none
  b_max : mg "max" = none
  b_min : mg "min" = none
  b_range : mg "range" = none
  b_sorted : mg "sorted" = none
  b_tuple : mg "tuple" = none
  b_zip : mg "zip" = none
  g_PARTS : ∀ {P w base k}, GvL ⟨P, w, gx K mg, base, k⟩ "PARTS" (.tup [(.str [111, 110, 95, 98, 97, 99, 107]), (.str [111, 110, 95, 102, 117, 108, 108]), (.str [111, 110, 95, 114, 101, 115, 116, 97, 114, 116])])
  g_BACK_WORDS : ∀ {P w base k}, GvL ⟨P, w, gx K mg, base, k⟩ "BACK_WORDS" (.tup [(.str [116, 114, 117, 115, 116]), (.str [104, 111, 108, 100]), (.str [114, 101, 102, 117, 115, 101])])
  g_FULL_WORDS : ∀ {P w base k}, GvL ⟨P, w, gx K mg, base, k⟩ "FULL_WORDS" (.tup [(.str [119, 114, 97, 112]), (.str [98, 111, 114, 114, 111, 119]), (.str [114, 101, 102, 117, 115, 101])])
  g_RESTART_WORDS : ∀ {P w base k}, GvL ⟨P, w, gx K mg, base, k⟩ "RESTART_WORDS" (.tup [(.str [102, 111, 114, 103, 101, 116]), (.str [115, 97, 118, 101, 100]), (.str [119, 97, 105, 116])])
  g_MAX_MAKERS : ∀ {P w base k}, GvL ⟨P, w, gx K mg, base, k⟩ "MAX_MAKERS" (.int 2)
  g_MAX_MARK : ∀ {P w base k}, GvL ⟨P, w, gx K mg, base, k⟩ "MAX_MARK" (.int 3)
  g_FRESH : ∀ {P w base k}, GvL ⟨P, w, gx K mg, base, k⟩ "FRESH" (.tup [(.int 0), (.int (-1)), (.int 0), (.int (-1))])
  g_NONE : ∀ {P w base k}, GvL ⟨P, w, gx K mg, base, k⟩ "NONE" (.int (-1))
  g_CLOCK : ∀ {P w base k}, GvL ⟨P, w, gx K mg, base, k⟩ "CLOCK" (.str [99, 108, 111, 99, 107])
  g_GIVE : ∀ {P w base k}, GvL ⟨P, w, gx K mg, base, k⟩ "GIVE" (.str [103, 105, 118, 101])
  g_RESTART : ∀ {P w base k}, GvL ⟨P, w, gx K mg, base, k⟩ "RESTART" (.str [114, 101, 115, 116, 97, 114, 116])
section
variable {P : Program} {w : World} {K : PySem.W.Frag} {mg : Str → Option Value} {base : Heap} {j : Nat} {C0 C1 : Addr}
theorem fn_is_number (T : Txt K mg C0 C1) (hj : 3 ≤ j) : FnL ⟨P, w, gx K mg, base, j⟩ "is_number" F_is_number := by
  have nd : needSs ir_is_number ⟨P, w, gx K mg, base, 0⟩ := by
    have b_all : BtL ⟨P, w, gx K mg, base, 0⟩ "all" := T.b_all
    have b_bool : BtL ⟨P, w, gx K mg, base, 0⟩ "bool" := T.b_bool
    have b_enumerate : BtL ⟨P, w, gx K mg, base, 0⟩ "enumerate" := T.b_enumerate
    have b_int : BtL ⟨P, w, gx K mg, base, 0⟩ "int" := T.b_int
    have b_isinstance : BtL ⟨P, w, gx K mg, base, 0⟩ "isinstance" := T.b_isinstance
    have b_len : BtL ⟨P, w, gx K mg, base, 0⟩ "len" := T.b_len
    have b_max : BtL ⟨P, w, gx K mg, base, 0⟩ "max" := T.b_max
    have b_min : BtL ⟨P, w, gx K mg, base, 0⟩ "min" := T.b_min
    have b_range : BtL ⟨P, w, gx K mg, base, 0⟩ "range" := T.b_range
    have b_sorted : BtL ⟨P, w, gx K mg, base, 0⟩ "sorted" := T.b_sorted
    have b_tuple : BtL ⟨P, w, gx K mg, base, 0⟩ "tuple" := T.b_tuple
    have b_zip : BtL ⟨P, w, gx K mg, base, 0⟩ "zip" := T.b_zip
    have g_PARTS : GvL ⟨P, w, gx K mg, base, 0⟩ "PARTS" (.tup [(.str [111, 110, 95, 98, 97, 99, 107]), (.str [111, 110, 95, 102, 117, 108, 108]), (.str [111, 110, 95, 114, 101, 115, 116, 97, 114, 116])]) := T.g_PARTS
    have g_BACK_WORDS : GvL ⟨P, w, gx K mg, base, 0⟩ "BACK_WORDS" (.tup [(.str [116, 114, 117, 115, 116]), (.str [104, 111, 108, 100]), (.str [114, 101, 102, 117, 115, 101])]) := T.g_BACK_WORDS
    have g_FULL_WORDS : GvL ⟨P, w, gx K mg, base, 0⟩ "FULL_WORDS" (.tup [(.str [119, 114, 97, 112]), (.str [98, 111, 114, 114, 111, 119]), (.str [114, 101, 102, 117, 115, 101])]) := T.g_FULL_WORDS
    have g_RESTART_WORDS : GvL ⟨P, w, gx K mg, base, 0⟩ "RESTART_WORDS" (.tup [(.str [102, 111, 114, 103, 101, 116]), (.str [115, 97, 118, 101, 100]), (.str [119, 97, 105, 116])]) := T.g_RESTART_WORDS
    have g_MAX_MAKERS : GvL ⟨P, w, gx K mg, base, 0⟩ "MAX_MAKERS" (.int 2) := T.g_MAX_MAKERS
    have g_MAX_MARK : GvL ⟨P, w, gx K mg, base, 0⟩ "MAX_MARK" (.int 3) := T.g_MAX_MARK
    have g_FRESH : GvL ⟨P, w, gx K mg, base, 0⟩ "FRESH" (.tup [(.int 0), (.int (-1)), (.int 0), (.int (-1))]) := T.g_FRESH
    have g_NONE : GvL ⟨P, w, gx K mg, base, 0⟩ "NONE" (.int (-1)) := T.g_NONE
    have g_CLOCK : GvL ⟨P, w, gx K mg, base, 0⟩ "CLOCK" (.str [99, 108, 111, 99, 107]) := T.g_CLOCK
    have g_GIVE : GvL ⟨P, w, gx K mg, base, 0⟩ "GIVE" (.str [103, 105, 118, 101]) := T.g_GIVE
    have g_RESTART : GvL ⟨P, w, gx K mg, base, 0⟩ "RESTART" (.str [114, 101, 115, 116, 97, 114, 116]) := T.g_RESTART
    have fl0_0 : FldL ⟨P, w, gx K mg, base, 0⟩ 0 0 := by obtain ⟨p, s1⟩ := T.fl0_0; exact fld_sl (t := ⟨P, w, gx K mg, base, 0⟩) (by decide) T.mc0 rfl T.sc0 s1 rfl
    have fl1_1 : FldL ⟨P, w, gx K mg, base, 0⟩ 1 1 := by obtain ⟨p, s1⟩ := T.fl1_1; exact fld_sl (t := ⟨P, w, gx K mg, base, 0⟩) (by decide) T.mc1 rfl T.sc1 s1 rfl
    have fl1_2 : FldL ⟨P, w, gx K mg, base, 0⟩ 1 2 := by obtain ⟨p, s1⟩ := T.fl1_2; exact fld_sl (t := ⟨P, w, gx K mg, base, 0⟩) (by decide) T.mc1 rfl T.sc1 s1 rfl
    simp only [ir_is_number, needSs, needA, needB, needO, needX, needS, needT, nd_Xp_v, nd_Xo_v, nd_Xp_c, nd_Xp_g, nd_Xp_neg, nd_Xp_bin, nd_Xp_cmp, nd_Xt_cmp, nd_Xt_e, nd_Xt_not, nd_Xt_and, nd_Xt_or, nd_Xp_and, nd_Xp_or, nd_Xp_not, nd_Xp_ite, nd_Xp_chain, nd_Xt_chain, nd_Xp_ix, nd_Xp_sl, nd_Xp_tup, nd_Xp_fz, nd_Xp_hp, nd_Xn_lst, nd_Xp_call, nd_Xp_bi, nd_Xn_bi, nd_Xp_isi, nd_Ib_seq, nd_Ib_r1, nd_Ib_r2, nd_Xn_lc, nd_Sm_asg, nd_Sm_asgO, nd_Sm_asgLc, nd_Sm_asgOLc, nd_Sm_ex, nd_Sm_ret, nd_Sm_retN, nd_Sm_pass, nd_Sm_brk, nd_Sm_cont, nd_Sm_nev, nd_Sm_doc, nd_Sm_ife, nd_Sm_for_, nd_Sm_whl, nd_Sm_par, nd_Sm_app, nd_Xp_app, nd_Sm_setO, nd_Sm_setH, nd_Xp_at, nd_Xp_prop, nd_Xp_mc, nd_Sm_setA, nd_Xp_mkF, nd_Xp_mkH, nd_Xp_mul, nd_Xn_rep, nd_Xp_tupS, nd_Xn_lstS, nd_Ib_en, nd_Ib_zip2, nd_Ib_zip3, nd_Sm_tryN, nd_Xn_add, nd_Xp_lenO, nd_Xp_tzip, nd_Xn_sortK, nd_o, nd_al, nd_ar, biName, bnName, kdName, true_and, and_true]
    try exact trivial
    all_goals (repeat' (with_reducible apply And.intro))
    all_goals first | with_reducible assumption | exact trivial
  exact FnL.pure (gk_gx K mg) (DefAt.fnm (gk_gx K mg) (G := gx K mg) T.d_is_number sc_is_number ok_is_number nd (fun _ _ _ _ _ _ us hl => match us, hl with | [_, _, _], _ => rfl) hj)
theorem fn_Plan___init__ (T : Txt K mg C0 C1) (hj : 3 ≤ j) : MkL ⟨P, w, gx K mg, base, j⟩ 0 F_Plan___init__ := by
  have nd : needSs ir_Plan___init__ ⟨P, w, gx K mg, base, 0⟩ := by
    have b_all : BtL ⟨P, w, gx K mg, base, 0⟩ "all" := T.b_all
    have b_bool : BtL ⟨P, w, gx K mg, base, 0⟩ "bool" := T.b_bool
    have b_enumerate : BtL ⟨P, w, gx K mg, base, 0⟩ "enumerate" := T.b_enumerate
    have b_int : BtL ⟨P, w, gx K mg, base, 0⟩ "int" := T.b_int
    have b_isinstance : BtL ⟨P, w, gx K mg, base, 0⟩ "isinstance" := T.b_isinstance
    have b_len : BtL ⟨P, w, gx K mg, base, 0⟩ "len" := T.b_len
    have b_max : BtL ⟨P, w, gx K mg, base, 0⟩ "max" := T.b_max
    have b_min : BtL ⟨P, w, gx K mg, base, 0⟩ "min" := T.b_min
    have b_range : BtL ⟨P, w, gx K mg, base, 0⟩ "range" := T.b_range
    have b_sorted : BtL ⟨P, w, gx K mg, base, 0⟩ "sorted" := T.b_sorted
    have b_tuple : BtL ⟨P, w, gx K mg, base, 0⟩ "tuple" := T.b_tuple
    have b_zip : BtL ⟨P, w, gx K mg, base, 0⟩ "zip" := T.b_zip
    have g_PARTS : GvL ⟨P, w, gx K mg, base, 0⟩ "PARTS" (.tup [(.str [111, 110, 95, 98, 97, 99, 107]), (.str [111, 110, 95, 102, 117, 108, 108]), (.str [111, 110, 95, 114, 101, 115, 116, 97, 114, 116])]) := T.g_PARTS
    have g_BACK_WORDS : GvL ⟨P, w, gx K mg, base, 0⟩ "BACK_WORDS" (.tup [(.str [116, 114, 117, 115, 116]), (.str [104, 111, 108, 100]), (.str [114, 101, 102, 117, 115, 101])]) := T.g_BACK_WORDS
    have g_FULL_WORDS : GvL ⟨P, w, gx K mg, base, 0⟩ "FULL_WORDS" (.tup [(.str [119, 114, 97, 112]), (.str [98, 111, 114, 114, 111, 119]), (.str [114, 101, 102, 117, 115, 101])]) := T.g_FULL_WORDS
    have g_RESTART_WORDS : GvL ⟨P, w, gx K mg, base, 0⟩ "RESTART_WORDS" (.tup [(.str [102, 111, 114, 103, 101, 116]), (.str [115, 97, 118, 101, 100]), (.str [119, 97, 105, 116])]) := T.g_RESTART_WORDS
    have g_MAX_MAKERS : GvL ⟨P, w, gx K mg, base, 0⟩ "MAX_MAKERS" (.int 2) := T.g_MAX_MAKERS
    have g_MAX_MARK : GvL ⟨P, w, gx K mg, base, 0⟩ "MAX_MARK" (.int 3) := T.g_MAX_MARK
    have g_FRESH : GvL ⟨P, w, gx K mg, base, 0⟩ "FRESH" (.tup [(.int 0), (.int (-1)), (.int 0), (.int (-1))]) := T.g_FRESH
    have g_NONE : GvL ⟨P, w, gx K mg, base, 0⟩ "NONE" (.int (-1)) := T.g_NONE
    have g_CLOCK : GvL ⟨P, w, gx K mg, base, 0⟩ "CLOCK" (.str [99, 108, 111, 99, 107]) := T.g_CLOCK
    have g_GIVE : GvL ⟨P, w, gx K mg, base, 0⟩ "GIVE" (.str [103, 105, 118, 101]) := T.g_GIVE
    have g_RESTART : GvL ⟨P, w, gx K mg, base, 0⟩ "RESTART" (.str [114, 101, 115, 116, 97, 114, 116]) := T.g_RESTART
    have fl0_0 : FldL ⟨P, w, gx K mg, base, 0⟩ 0 0 := by obtain ⟨p, s1⟩ := T.fl0_0; exact fld_sl (t := ⟨P, w, gx K mg, base, 0⟩) (by decide) T.mc0 rfl T.sc0 s1 rfl
    have fl1_1 : FldL ⟨P, w, gx K mg, base, 0⟩ 1 1 := by obtain ⟨p, s1⟩ := T.fl1_1; exact fld_sl (t := ⟨P, w, gx K mg, base, 0⟩) (by decide) T.mc1 rfl T.sc1 s1 rfl
    have fl1_2 : FldL ⟨P, w, gx K mg, base, 0⟩ 1 2 := by obtain ⟨p, s1⟩ := T.fl1_2; exact fld_sl (t := ⟨P, w, gx K mg, base, 0⟩) (by decide) T.mc1 rfl T.sc1 s1 rfl
    simp only [ir_Plan___init__, needSs, needA, needB, needO, needX, needS, needT, nd_Xp_v, nd_Xo_v, nd_Xp_c, nd_Xp_g, nd_Xp_neg, nd_Xp_bin, nd_Xp_cmp, nd_Xt_cmp, nd_Xt_e, nd_Xt_not, nd_Xt_and, nd_Xt_or, nd_Xp_and, nd_Xp_or, nd_Xp_not, nd_Xp_ite, nd_Xp_chain, nd_Xt_chain, nd_Xp_ix, nd_Xp_sl, nd_Xp_tup, nd_Xp_fz, nd_Xp_hp, nd_Xn_lst, nd_Xp_call, nd_Xp_bi, nd_Xn_bi, nd_Xp_isi, nd_Ib_seq, nd_Ib_r1, nd_Ib_r2, nd_Xn_lc, nd_Sm_asg, nd_Sm_asgO, nd_Sm_asgLc, nd_Sm_asgOLc, nd_Sm_ex, nd_Sm_ret, nd_Sm_retN, nd_Sm_pass, nd_Sm_brk, nd_Sm_cont, nd_Sm_nev, nd_Sm_doc, nd_Sm_ife, nd_Sm_for_, nd_Sm_whl, nd_Sm_par, nd_Sm_app, nd_Xp_app, nd_Sm_setO, nd_Sm_setH, nd_Xp_at, nd_Xp_prop, nd_Xp_mc, nd_Sm_setA, nd_Xp_mkF, nd_Xp_mkH, nd_Xp_mul, nd_Xn_rep, nd_Xp_tupS, nd_Xn_lstS, nd_Ib_en, nd_Ib_zip2, nd_Ib_zip3, nd_Sm_tryN, nd_Xn_add, nd_Xp_lenO, nd_Xp_tzip, nd_Xn_sortK, nd_o, nd_al, nd_ar, biName, bnName, kdName, true_and, and_true]
    try exact trivial
    all_goals (repeat' (with_reducible apply And.intro))
    all_goals first | with_reducible assumption | exact trivial
  exact MemAt.mkL (gk_gx K mg) (G := gx K mg) T.d_Plan___init__ T.mc0 T.mk0 T.kc0 sc_Plan___init__ ok_Plan___init__ nd (fun _ _ _ _ _ _ us hl => match us, hl with | [_, _, _, _], _ => rfl) hj
theorem fn_Plan_on_back (T : Txt K mg C0 C1) (hj : 3 ≤ j) : PropL ⟨P, w, gx K mg, base, j⟩ 0 "on_back" F_Plan_on_back := by
  have nd : needSs ir_Plan_on_back ⟨P, w, gx K mg, base, 0⟩ := by
    have b_all : BtL ⟨P, w, gx K mg, base, 0⟩ "all" := T.b_all
    have b_bool : BtL ⟨P, w, gx K mg, base, 0⟩ "bool" := T.b_bool
    have b_enumerate : BtL ⟨P, w, gx K mg, base, 0⟩ "enumerate" := T.b_enumerate
    have b_int : BtL ⟨P, w, gx K mg, base, 0⟩ "int" := T.b_int
    have b_isinstance : BtL ⟨P, w, gx K mg, base, 0⟩ "isinstance" := T.b_isinstance
    have b_len : BtL ⟨P, w, gx K mg, base, 0⟩ "len" := T.b_len
    have b_max : BtL ⟨P, w, gx K mg, base, 0⟩ "max" := T.b_max
    have b_min : BtL ⟨P, w, gx K mg, base, 0⟩ "min" := T.b_min
    have b_range : BtL ⟨P, w, gx K mg, base, 0⟩ "range" := T.b_range
    have b_sorted : BtL ⟨P, w, gx K mg, base, 0⟩ "sorted" := T.b_sorted
    have b_tuple : BtL ⟨P, w, gx K mg, base, 0⟩ "tuple" := T.b_tuple
    have b_zip : BtL ⟨P, w, gx K mg, base, 0⟩ "zip" := T.b_zip
    have g_PARTS : GvL ⟨P, w, gx K mg, base, 0⟩ "PARTS" (.tup [(.str [111, 110, 95, 98, 97, 99, 107]), (.str [111, 110, 95, 102, 117, 108, 108]), (.str [111, 110, 95, 114, 101, 115, 116, 97, 114, 116])]) := T.g_PARTS
    have g_BACK_WORDS : GvL ⟨P, w, gx K mg, base, 0⟩ "BACK_WORDS" (.tup [(.str [116, 114, 117, 115, 116]), (.str [104, 111, 108, 100]), (.str [114, 101, 102, 117, 115, 101])]) := T.g_BACK_WORDS
    have g_FULL_WORDS : GvL ⟨P, w, gx K mg, base, 0⟩ "FULL_WORDS" (.tup [(.str [119, 114, 97, 112]), (.str [98, 111, 114, 114, 111, 119]), (.str [114, 101, 102, 117, 115, 101])]) := T.g_FULL_WORDS
    have g_RESTART_WORDS : GvL ⟨P, w, gx K mg, base, 0⟩ "RESTART_WORDS" (.tup [(.str [102, 111, 114, 103, 101, 116]), (.str [115, 97, 118, 101, 100]), (.str [119, 97, 105, 116])]) := T.g_RESTART_WORDS
    have g_MAX_MAKERS : GvL ⟨P, w, gx K mg, base, 0⟩ "MAX_MAKERS" (.int 2) := T.g_MAX_MAKERS
    have g_MAX_MARK : GvL ⟨P, w, gx K mg, base, 0⟩ "MAX_MARK" (.int 3) := T.g_MAX_MARK
    have g_FRESH : GvL ⟨P, w, gx K mg, base, 0⟩ "FRESH" (.tup [(.int 0), (.int (-1)), (.int 0), (.int (-1))]) := T.g_FRESH
    have g_NONE : GvL ⟨P, w, gx K mg, base, 0⟩ "NONE" (.int (-1)) := T.g_NONE
    have g_CLOCK : GvL ⟨P, w, gx K mg, base, 0⟩ "CLOCK" (.str [99, 108, 111, 99, 107]) := T.g_CLOCK
    have g_GIVE : GvL ⟨P, w, gx K mg, base, 0⟩ "GIVE" (.str [103, 105, 118, 101]) := T.g_GIVE
    have g_RESTART : GvL ⟨P, w, gx K mg, base, 0⟩ "RESTART" (.str [114, 101, 115, 116, 97, 114, 116]) := T.g_RESTART
    have fl0_0 : FldL ⟨P, w, gx K mg, base, 0⟩ 0 0 := by obtain ⟨p, s1⟩ := T.fl0_0; exact fld_sl (t := ⟨P, w, gx K mg, base, 0⟩) (by decide) T.mc0 rfl T.sc0 s1 rfl
    have fl1_1 : FldL ⟨P, w, gx K mg, base, 0⟩ 1 1 := by obtain ⟨p, s1⟩ := T.fl1_1; exact fld_sl (t := ⟨P, w, gx K mg, base, 0⟩) (by decide) T.mc1 rfl T.sc1 s1 rfl
    have fl1_2 : FldL ⟨P, w, gx K mg, base, 0⟩ 1 2 := by obtain ⟨p, s1⟩ := T.fl1_2; exact fld_sl (t := ⟨P, w, gx K mg, base, 0⟩) (by decide) T.mc1 rfl T.sc1 s1 rfl
    simp only [ir_Plan_on_back, needSs, needA, needB, needO, needX, needS, needT, nd_Xp_v, nd_Xo_v, nd_Xp_c, nd_Xp_g, nd_Xp_neg, nd_Xp_bin, nd_Xp_cmp, nd_Xt_cmp, nd_Xt_e, nd_Xt_not, nd_Xt_and, nd_Xt_or, nd_Xp_and, nd_Xp_or, nd_Xp_not, nd_Xp_ite, nd_Xp_chain, nd_Xt_chain, nd_Xp_ix, nd_Xp_sl, nd_Xp_tup, nd_Xp_fz, nd_Xp_hp, nd_Xn_lst, nd_Xp_call, nd_Xp_bi, nd_Xn_bi, nd_Xp_isi, nd_Ib_seq, nd_Ib_r1, nd_Ib_r2, nd_Xn_lc, nd_Sm_asg, nd_Sm_asgO, nd_Sm_asgLc, nd_Sm_asgOLc, nd_Sm_ex, nd_Sm_ret, nd_Sm_retN, nd_Sm_pass, nd_Sm_brk, nd_Sm_cont, nd_Sm_nev, nd_Sm_doc, nd_Sm_ife, nd_Sm_for_, nd_Sm_whl, nd_Sm_par, nd_Sm_app, nd_Xp_app, nd_Sm_setO, nd_Sm_setH, nd_Xp_at, nd_Xp_prop, nd_Xp_mc, nd_Sm_setA, nd_Xp_mkF, nd_Xp_mkH, nd_Xp_mul, nd_Xn_rep, nd_Xp_tupS, nd_Xn_lstS, nd_Ib_en, nd_Ib_zip2, nd_Ib_zip3, nd_Sm_tryN, nd_Xn_add, nd_Xp_lenO, nd_Xp_tzip, nd_Xn_sortK, nd_o, nd_al, nd_ar, biName, bnName, kdName, true_and, and_true]
    try exact trivial
    all_goals (repeat' (with_reducible apply And.intro))
    all_goals first | with_reducible assumption | exact trivial
  exact PropAt.fnm (gk_gx K mg) (G := gx K mg) T.d_Plan_on_back T.mc0 rfl T.sc0 sc_Plan_on_back ok_Plan_on_back nd (fun _ _ _ _ _ _ us hl => match us, hl with | [_], _ => rfl) hj
theorem fn_Plan_on_full (T : Txt K mg C0 C1) (hj : 3 ≤ j) : PropL ⟨P, w, gx K mg, base, j⟩ 0 "on_full" F_Plan_on_full := by
  have nd : needSs ir_Plan_on_full ⟨P, w, gx K mg, base, 0⟩ := by
    have b_all : BtL ⟨P, w, gx K mg, base, 0⟩ "all" := T.b_all
    have b_bool : BtL ⟨P, w, gx K mg, base, 0⟩ "bool" := T.b_bool
    have b_enumerate : BtL ⟨P, w, gx K mg, base, 0⟩ "enumerate" := T.b_enumerate
    have b_int : BtL ⟨P, w, gx K mg, base, 0⟩ "int" := T.b_int
    have b_isinstance : BtL ⟨P, w, gx K mg, base, 0⟩ "isinstance" := T.b_isinstance
    have b_len : BtL ⟨P, w, gx K mg, base, 0⟩ "len" := T.b_len
    have b_max : BtL ⟨P, w, gx K mg, base, 0⟩ "max" := T.b_max
    have b_min : BtL ⟨P, w, gx K mg, base, 0⟩ "min" := T.b_min
    have b_range : BtL ⟨P, w, gx K mg, base, 0⟩ "range" := T.b_range
    have b_sorted : BtL ⟨P, w, gx K mg, base, 0⟩ "sorted" := T.b_sorted
    have b_tuple : BtL ⟨P, w, gx K mg, base, 0⟩ "tuple" := T.b_tuple
    have b_zip : BtL ⟨P, w, gx K mg, base, 0⟩ "zip" := T.b_zip
    have g_PARTS : GvL ⟨P, w, gx K mg, base, 0⟩ "PARTS" (.tup [(.str [111, 110, 95, 98, 97, 99, 107]), (.str [111, 110, 95, 102, 117, 108, 108]), (.str [111, 110, 95, 114, 101, 115, 116, 97, 114, 116])]) := T.g_PARTS
    have g_BACK_WORDS : GvL ⟨P, w, gx K mg, base, 0⟩ "BACK_WORDS" (.tup [(.str [116, 114, 117, 115, 116]), (.str [104, 111, 108, 100]), (.str [114, 101, 102, 117, 115, 101])]) := T.g_BACK_WORDS
    have g_FULL_WORDS : GvL ⟨P, w, gx K mg, base, 0⟩ "FULL_WORDS" (.tup [(.str [119, 114, 97, 112]), (.str [98, 111, 114, 114, 111, 119]), (.str [114, 101, 102, 117, 115, 101])]) := T.g_FULL_WORDS
    have g_RESTART_WORDS : GvL ⟨P, w, gx K mg, base, 0⟩ "RESTART_WORDS" (.tup [(.str [102, 111, 114, 103, 101, 116]), (.str [115, 97, 118, 101, 100]), (.str [119, 97, 105, 116])]) := T.g_RESTART_WORDS
    have g_MAX_MAKERS : GvL ⟨P, w, gx K mg, base, 0⟩ "MAX_MAKERS" (.int 2) := T.g_MAX_MAKERS
    have g_MAX_MARK : GvL ⟨P, w, gx K mg, base, 0⟩ "MAX_MARK" (.int 3) := T.g_MAX_MARK
    have g_FRESH : GvL ⟨P, w, gx K mg, base, 0⟩ "FRESH" (.tup [(.int 0), (.int (-1)), (.int 0), (.int (-1))]) := T.g_FRESH
    have g_NONE : GvL ⟨P, w, gx K mg, base, 0⟩ "NONE" (.int (-1)) := T.g_NONE
    have g_CLOCK : GvL ⟨P, w, gx K mg, base, 0⟩ "CLOCK" (.str [99, 108, 111, 99, 107]) := T.g_CLOCK
    have g_GIVE : GvL ⟨P, w, gx K mg, base, 0⟩ "GIVE" (.str [103, 105, 118, 101]) := T.g_GIVE
    have g_RESTART : GvL ⟨P, w, gx K mg, base, 0⟩ "RESTART" (.str [114, 101, 115, 116, 97, 114, 116]) := T.g_RESTART
    have fl0_0 : FldL ⟨P, w, gx K mg, base, 0⟩ 0 0 := by obtain ⟨p, s1⟩ := T.fl0_0; exact fld_sl (t := ⟨P, w, gx K mg, base, 0⟩) (by decide) T.mc0 rfl T.sc0 s1 rfl
    have fl1_1 : FldL ⟨P, w, gx K mg, base, 0⟩ 1 1 := by obtain ⟨p, s1⟩ := T.fl1_1; exact fld_sl (t := ⟨P, w, gx K mg, base, 0⟩) (by decide) T.mc1 rfl T.sc1 s1 rfl
    have fl1_2 : FldL ⟨P, w, gx K mg, base, 0⟩ 1 2 := by obtain ⟨p, s1⟩ := T.fl1_2; exact fld_sl (t := ⟨P, w, gx K mg, base, 0⟩) (by decide) T.mc1 rfl T.sc1 s1 rfl
    simp only [ir_Plan_on_full, needSs, needA, needB, needO, needX, needS, needT, nd_Xp_v, nd_Xo_v, nd_Xp_c, nd_Xp_g, nd_Xp_neg, nd_Xp_bin, nd_Xp_cmp, nd_Xt_cmp, nd_Xt_e, nd_Xt_not, nd_Xt_and, nd_Xt_or, nd_Xp_and, nd_Xp_or, nd_Xp_not, nd_Xp_ite, nd_Xp_chain, nd_Xt_chain, nd_Xp_ix, nd_Xp_sl, nd_Xp_tup, nd_Xp_fz, nd_Xp_hp, nd_Xn_lst, nd_Xp_call, nd_Xp_bi, nd_Xn_bi, nd_Xp_isi, nd_Ib_seq, nd_Ib_r1, nd_Ib_r2, nd_Xn_lc, nd_Sm_asg, nd_Sm_asgO, nd_Sm_asgLc, nd_Sm_asgOLc, nd_Sm_ex, nd_Sm_ret, nd_Sm_retN, nd_Sm_pass, nd_Sm_brk, nd_Sm_cont, nd_Sm_nev, nd_Sm_doc, nd_Sm_ife, nd_Sm_for_, nd_Sm_whl, nd_Sm_par, nd_Sm_app, nd_Xp_app, nd_Sm_setO, nd_Sm_setH, nd_Xp_at, nd_Xp_prop, nd_Xp_mc, nd_Sm_setA, nd_Xp_mkF, nd_Xp_mkH, nd_Xp_mul, nd_Xn_rep, nd_Xp_tupS, nd_Xn_lstS, nd_Ib_en, nd_Ib_zip2, nd_Ib_zip3, nd_Sm_tryN, nd_Xn_add, nd_Xp_lenO, nd_Xp_tzip, nd_Xn_sortK, nd_o, nd_al, nd_ar, biName, bnName, kdName, true_and, and_true]
    try exact trivial
    all_goals (repeat' (with_reducible apply And.intro))
    all_goals first | with_reducible assumption | exact trivial
  exact PropAt.fnm (gk_gx K mg) (G := gx K mg) T.d_Plan_on_full T.mc0 rfl T.sc0 sc_Plan_on_full ok_Plan_on_full nd (fun _ _ _ _ _ _ us hl => match us, hl with | [_], _ => rfl) hj
theorem fn_Plan_on_restart (T : Txt K mg C0 C1) (hj : 3 ≤ j) : PropL ⟨P, w, gx K mg, base, j⟩ 0 "on_restart" F_Plan_on_restart := by
  have nd : needSs ir_Plan_on_restart ⟨P, w, gx K mg, base, 0⟩ := by
    have b_all : BtL ⟨P, w, gx K mg, base, 0⟩ "all" := T.b_all
    have b_bool : BtL ⟨P, w, gx K mg, base, 0⟩ "bool" := T.b_bool
    have b_enumerate : BtL ⟨P, w, gx K mg, base, 0⟩ "enumerate" := T.b_enumerate
    have b_int : BtL ⟨P, w, gx K mg, base, 0⟩ "int" := T.b_int
    have b_isinstance : BtL ⟨P, w, gx K mg, base, 0⟩ "isinstance" := T.b_isinstance
    have b_len : BtL ⟨P, w, gx K mg, base, 0⟩ "len" := T.b_len
    have b_max : BtL ⟨P, w, gx K mg, base, 0⟩ "max" := T.b_max
    have b_min : BtL ⟨P, w, gx K mg, base, 0⟩ "min" := T.b_min
    have b_range : BtL ⟨P, w, gx K mg, base, 0⟩ "range" := T.b_range
    have b_sorted : BtL ⟨P, w, gx K mg, base, 0⟩ "sorted" := T.b_sorted
    have b_tuple : BtL ⟨P, w, gx K mg, base, 0⟩ "tuple" := T.b_tuple
    have b_zip : BtL ⟨P, w, gx K mg, base, 0⟩ "zip" := T.b_zip
    have g_PARTS : GvL ⟨P, w, gx K mg, base, 0⟩ "PARTS" (.tup [(.str [111, 110, 95, 98, 97, 99, 107]), (.str [111, 110, 95, 102, 117, 108, 108]), (.str [111, 110, 95, 114, 101, 115, 116, 97, 114, 116])]) := T.g_PARTS
    have g_BACK_WORDS : GvL ⟨P, w, gx K mg, base, 0⟩ "BACK_WORDS" (.tup [(.str [116, 114, 117, 115, 116]), (.str [104, 111, 108, 100]), (.str [114, 101, 102, 117, 115, 101])]) := T.g_BACK_WORDS
    have g_FULL_WORDS : GvL ⟨P, w, gx K mg, base, 0⟩ "FULL_WORDS" (.tup [(.str [119, 114, 97, 112]), (.str [98, 111, 114, 114, 111, 119]), (.str [114, 101, 102, 117, 115, 101])]) := T.g_FULL_WORDS
    have g_RESTART_WORDS : GvL ⟨P, w, gx K mg, base, 0⟩ "RESTART_WORDS" (.tup [(.str [102, 111, 114, 103, 101, 116]), (.str [115, 97, 118, 101, 100]), (.str [119, 97, 105, 116])]) := T.g_RESTART_WORDS
    have g_MAX_MAKERS : GvL ⟨P, w, gx K mg, base, 0⟩ "MAX_MAKERS" (.int 2) := T.g_MAX_MAKERS
    have g_MAX_MARK : GvL ⟨P, w, gx K mg, base, 0⟩ "MAX_MARK" (.int 3) := T.g_MAX_MARK
    have g_FRESH : GvL ⟨P, w, gx K mg, base, 0⟩ "FRESH" (.tup [(.int 0), (.int (-1)), (.int 0), (.int (-1))]) := T.g_FRESH
    have g_NONE : GvL ⟨P, w, gx K mg, base, 0⟩ "NONE" (.int (-1)) := T.g_NONE
    have g_CLOCK : GvL ⟨P, w, gx K mg, base, 0⟩ "CLOCK" (.str [99, 108, 111, 99, 107]) := T.g_CLOCK
    have g_GIVE : GvL ⟨P, w, gx K mg, base, 0⟩ "GIVE" (.str [103, 105, 118, 101]) := T.g_GIVE
    have g_RESTART : GvL ⟨P, w, gx K mg, base, 0⟩ "RESTART" (.str [114, 101, 115, 116, 97, 114, 116]) := T.g_RESTART
    have fl0_0 : FldL ⟨P, w, gx K mg, base, 0⟩ 0 0 := by obtain ⟨p, s1⟩ := T.fl0_0; exact fld_sl (t := ⟨P, w, gx K mg, base, 0⟩) (by decide) T.mc0 rfl T.sc0 s1 rfl
    have fl1_1 : FldL ⟨P, w, gx K mg, base, 0⟩ 1 1 := by obtain ⟨p, s1⟩ := T.fl1_1; exact fld_sl (t := ⟨P, w, gx K mg, base, 0⟩) (by decide) T.mc1 rfl T.sc1 s1 rfl
    have fl1_2 : FldL ⟨P, w, gx K mg, base, 0⟩ 1 2 := by obtain ⟨p, s1⟩ := T.fl1_2; exact fld_sl (t := ⟨P, w, gx K mg, base, 0⟩) (by decide) T.mc1 rfl T.sc1 s1 rfl
    simp only [ir_Plan_on_restart, needSs, needA, needB, needO, needX, needS, needT, nd_Xp_v, nd_Xo_v, nd_Xp_c, nd_Xp_g, nd_Xp_neg, nd_Xp_bin, nd_Xp_cmp, nd_Xt_cmp, nd_Xt_e, nd_Xt_not, nd_Xt_and, nd_Xt_or, nd_Xp_and, nd_Xp_or, nd_Xp_not, nd_Xp_ite, nd_Xp_chain, nd_Xt_chain, nd_Xp_ix, nd_Xp_sl, nd_Xp_tup, nd_Xp_fz, nd_Xp_hp, nd_Xn_lst, nd_Xp_call, nd_Xp_bi, nd_Xn_bi, nd_Xp_isi, nd_Ib_seq, nd_Ib_r1, nd_Ib_r2, nd_Xn_lc, nd_Sm_asg, nd_Sm_asgO, nd_Sm_asgLc, nd_Sm_asgOLc, nd_Sm_ex, nd_Sm_ret, nd_Sm_retN, nd_Sm_pass, nd_Sm_brk, nd_Sm_cont, nd_Sm_nev, nd_Sm_doc, nd_Sm_ife, nd_Sm_for_, nd_Sm_whl, nd_Sm_par, nd_Sm_app, nd_Xp_app, nd_Sm_setO, nd_Sm_setH, nd_Xp_at, nd_Xp_prop, nd_Xp_mc, nd_Sm_setA, nd_Xp_mkF, nd_Xp_mkH, nd_Xp_mul, nd_Xn_rep, nd_Xp_tupS, nd_Xn_lstS, nd_Ib_en, nd_Ib_zip2, nd_Ib_zip3, nd_Sm_tryN, nd_Xn_add, nd_Xp_lenO, nd_Xp_tzip, nd_Xn_sortK, nd_o, nd_al, nd_ar, biName, bnName, kdName, true_and, and_true]
    try exact trivial
    all_goals (repeat' (with_reducible apply And.intro))
    all_goals first | with_reducible assumption | exact trivial
  exact PropAt.fnm (gk_gx K mg) (G := gx K mg) T.d_Plan_on_restart T.mc0 rfl T.sc0 sc_Plan_on_restart ok_Plan_on_restart nd (fun _ _ _ _ _ _ us hl => match us, hl with | [_], _ => rfl) hj
theorem fn_check_ranges (T : Txt K mg C0 C1) (hj : 6 ≤ j) : FnL ⟨P, w, gx K mg, base, j⟩ "check_ranges" F_check_ranges := by
  have nd : needSs ir_check_ranges ⟨P, w, gx K mg, base, 3⟩ := by
    have b_all : BtL ⟨P, w, gx K mg, base, 3⟩ "all" := T.b_all
    have b_bool : BtL ⟨P, w, gx K mg, base, 3⟩ "bool" := T.b_bool
    have b_enumerate : BtL ⟨P, w, gx K mg, base, 3⟩ "enumerate" := T.b_enumerate
    have b_int : BtL ⟨P, w, gx K mg, base, 3⟩ "int" := T.b_int
    have b_isinstance : BtL ⟨P, w, gx K mg, base, 3⟩ "isinstance" := T.b_isinstance
    have b_len : BtL ⟨P, w, gx K mg, base, 3⟩ "len" := T.b_len
    have b_max : BtL ⟨P, w, gx K mg, base, 3⟩ "max" := T.b_max
    have b_min : BtL ⟨P, w, gx K mg, base, 3⟩ "min" := T.b_min
    have b_range : BtL ⟨P, w, gx K mg, base, 3⟩ "range" := T.b_range
    have b_sorted : BtL ⟨P, w, gx K mg, base, 3⟩ "sorted" := T.b_sorted
    have b_tuple : BtL ⟨P, w, gx K mg, base, 3⟩ "tuple" := T.b_tuple
    have b_zip : BtL ⟨P, w, gx K mg, base, 3⟩ "zip" := T.b_zip
    have g_PARTS : GvL ⟨P, w, gx K mg, base, 3⟩ "PARTS" (.tup [(.str [111, 110, 95, 98, 97, 99, 107]), (.str [111, 110, 95, 102, 117, 108, 108]), (.str [111, 110, 95, 114, 101, 115, 116, 97, 114, 116])]) := T.g_PARTS
    have g_BACK_WORDS : GvL ⟨P, w, gx K mg, base, 3⟩ "BACK_WORDS" (.tup [(.str [116, 114, 117, 115, 116]), (.str [104, 111, 108, 100]), (.str [114, 101, 102, 117, 115, 101])]) := T.g_BACK_WORDS
    have g_FULL_WORDS : GvL ⟨P, w, gx K mg, base, 3⟩ "FULL_WORDS" (.tup [(.str [119, 114, 97, 112]), (.str [98, 111, 114, 114, 111, 119]), (.str [114, 101, 102, 117, 115, 101])]) := T.g_FULL_WORDS
    have g_RESTART_WORDS : GvL ⟨P, w, gx K mg, base, 3⟩ "RESTART_WORDS" (.tup [(.str [102, 111, 114, 103, 101, 116]), (.str [115, 97, 118, 101, 100]), (.str [119, 97, 105, 116])]) := T.g_RESTART_WORDS
    have g_MAX_MAKERS : GvL ⟨P, w, gx K mg, base, 3⟩ "MAX_MAKERS" (.int 2) := T.g_MAX_MAKERS
    have g_MAX_MARK : GvL ⟨P, w, gx K mg, base, 3⟩ "MAX_MARK" (.int 3) := T.g_MAX_MARK
    have g_FRESH : GvL ⟨P, w, gx K mg, base, 3⟩ "FRESH" (.tup [(.int 0), (.int (-1)), (.int 0), (.int (-1))]) := T.g_FRESH
    have g_NONE : GvL ⟨P, w, gx K mg, base, 3⟩ "NONE" (.int (-1)) := T.g_NONE
    have g_CLOCK : GvL ⟨P, w, gx K mg, base, 3⟩ "CLOCK" (.str [99, 108, 111, 99, 107]) := T.g_CLOCK
    have g_GIVE : GvL ⟨P, w, gx K mg, base, 3⟩ "GIVE" (.str [103, 105, 118, 101]) := T.g_GIVE
    have g_RESTART : GvL ⟨P, w, gx K mg, base, 3⟩ "RESTART" (.str [114, 101, 115, 116, 97, 114, 116]) := T.g_RESTART
    have fl0_0 : FldL ⟨P, w, gx K mg, base, 3⟩ 0 0 := by obtain ⟨p, s1⟩ := T.fl0_0; exact fld_sl (t := ⟨P, w, gx K mg, base, 3⟩) (by decide) T.mc0 rfl T.sc0 s1 rfl
    have fl1_1 : FldL ⟨P, w, gx K mg, base, 3⟩ 1 1 := by obtain ⟨p, s1⟩ := T.fl1_1; exact fld_sl (t := ⟨P, w, gx K mg, base, 3⟩) (by decide) T.mc1 rfl T.sc1 s1 rfl
    have fl1_2 : FldL ⟨P, w, gx K mg, base, 3⟩ 1 2 := by obtain ⟨p, s1⟩ := T.fl1_2; exact fld_sl (t := ⟨P, w, gx K mg, base, 3⟩) (by decide) T.mc1 rfl T.sc1 s1 rfl
    have f_is_number : FnL ⟨P, w, gx K mg, base, 3⟩ "is_number" F_is_number := fn_is_number T (by decide)
    simp only [ir_check_ranges, needSs, needA, needB, needO, needX, needS, needT, nd_Xp_v, nd_Xo_v, nd_Xp_c, nd_Xp_g, nd_Xp_neg, nd_Xp_bin, nd_Xp_cmp, nd_Xt_cmp, nd_Xt_e, nd_Xt_not, nd_Xt_and, nd_Xt_or, nd_Xp_and, nd_Xp_or, nd_Xp_not, nd_Xp_ite, nd_Xp_chain, nd_Xt_chain, nd_Xp_ix, nd_Xp_sl, nd_Xp_tup, nd_Xp_fz, nd_Xp_hp, nd_Xn_lst, nd_Xp_call, nd_Xp_bi, nd_Xn_bi, nd_Xp_isi, nd_Ib_seq, nd_Ib_r1, nd_Ib_r2, nd_Xn_lc, nd_Sm_asg, nd_Sm_asgO, nd_Sm_asgLc, nd_Sm_asgOLc, nd_Sm_ex, nd_Sm_ret, nd_Sm_retN, nd_Sm_pass, nd_Sm_brk, nd_Sm_cont, nd_Sm_nev, nd_Sm_doc, nd_Sm_ife, nd_Sm_for_, nd_Sm_whl, nd_Sm_par, nd_Sm_app, nd_Xp_app, nd_Sm_setO, nd_Sm_setH, nd_Xp_at, nd_Xp_prop, nd_Xp_mc, nd_Sm_setA, nd_Xp_mkF, nd_Xp_mkH, nd_Xp_mul, nd_Xn_rep, nd_Xp_tupS, nd_Xn_lstS, nd_Ib_en, nd_Ib_zip2, nd_Ib_zip3, nd_Sm_tryN, nd_Xn_add, nd_Xp_lenO, nd_Xp_tzip, nd_Xn_sortK, nd_o, nd_al, nd_ar, biName, bnName, kdName, true_and, and_true]
    try exact trivial
    all_goals (repeat' (with_reducible apply And.intro))
    all_goals first | with_reducible assumption | exact trivial
  exact FnL.pure (gk_gx K mg) (DefAt.fnm (gk_gx K mg) (G := gx K mg) T.d_check_ranges sc_check_ranges ok_check_ranges nd (fun _ _ _ _ _ _ us hl => match us, hl with | [_], _ => rfl) hj)
theorem fn_Setup___init__ (T : Txt K mg C0 C1) (hj : 9 ≤ j) : MkL ⟨P, w, gx K mg, base, j⟩ 1 F_Setup___init__ := by
  have nd : needSs ir_Setup___init__ ⟨P, w, gx K mg, base, 6⟩ := by
    have b_all : BtL ⟨P, w, gx K mg, base, 6⟩ "all" := T.b_all
    have b_bool : BtL ⟨P, w, gx K mg, base, 6⟩ "bool" := T.b_bool
    have b_enumerate : BtL ⟨P, w, gx K mg, base, 6⟩ "enumerate" := T.b_enumerate
    have b_int : BtL ⟨P, w, gx K mg, base, 6⟩ "int" := T.b_int
    have b_isinstance : BtL ⟨P, w, gx K mg, base, 6⟩ "isinstance" := T.b_isinstance
    have b_len : BtL ⟨P, w, gx K mg, base, 6⟩ "len" := T.b_len
    have b_max : BtL ⟨P, w, gx K mg, base, 6⟩ "max" := T.b_max
    have b_min : BtL ⟨P, w, gx K mg, base, 6⟩ "min" := T.b_min
    have b_range : BtL ⟨P, w, gx K mg, base, 6⟩ "range" := T.b_range
    have b_sorted : BtL ⟨P, w, gx K mg, base, 6⟩ "sorted" := T.b_sorted
    have b_tuple : BtL ⟨P, w, gx K mg, base, 6⟩ "tuple" := T.b_tuple
    have b_zip : BtL ⟨P, w, gx K mg, base, 6⟩ "zip" := T.b_zip
    have g_PARTS : GvL ⟨P, w, gx K mg, base, 6⟩ "PARTS" (.tup [(.str [111, 110, 95, 98, 97, 99, 107]), (.str [111, 110, 95, 102, 117, 108, 108]), (.str [111, 110, 95, 114, 101, 115, 116, 97, 114, 116])]) := T.g_PARTS
    have g_BACK_WORDS : GvL ⟨P, w, gx K mg, base, 6⟩ "BACK_WORDS" (.tup [(.str [116, 114, 117, 115, 116]), (.str [104, 111, 108, 100]), (.str [114, 101, 102, 117, 115, 101])]) := T.g_BACK_WORDS
    have g_FULL_WORDS : GvL ⟨P, w, gx K mg, base, 6⟩ "FULL_WORDS" (.tup [(.str [119, 114, 97, 112]), (.str [98, 111, 114, 114, 111, 119]), (.str [114, 101, 102, 117, 115, 101])]) := T.g_FULL_WORDS
    have g_RESTART_WORDS : GvL ⟨P, w, gx K mg, base, 6⟩ "RESTART_WORDS" (.tup [(.str [102, 111, 114, 103, 101, 116]), (.str [115, 97, 118, 101, 100]), (.str [119, 97, 105, 116])]) := T.g_RESTART_WORDS
    have g_MAX_MAKERS : GvL ⟨P, w, gx K mg, base, 6⟩ "MAX_MAKERS" (.int 2) := T.g_MAX_MAKERS
    have g_MAX_MARK : GvL ⟨P, w, gx K mg, base, 6⟩ "MAX_MARK" (.int 3) := T.g_MAX_MARK
    have g_FRESH : GvL ⟨P, w, gx K mg, base, 6⟩ "FRESH" (.tup [(.int 0), (.int (-1)), (.int 0), (.int (-1))]) := T.g_FRESH
    have g_NONE : GvL ⟨P, w, gx K mg, base, 6⟩ "NONE" (.int (-1)) := T.g_NONE
    have g_CLOCK : GvL ⟨P, w, gx K mg, base, 6⟩ "CLOCK" (.str [99, 108, 111, 99, 107]) := T.g_CLOCK
    have g_GIVE : GvL ⟨P, w, gx K mg, base, 6⟩ "GIVE" (.str [103, 105, 118, 101]) := T.g_GIVE
    have g_RESTART : GvL ⟨P, w, gx K mg, base, 6⟩ "RESTART" (.str [114, 101, 115, 116, 97, 114, 116]) := T.g_RESTART
    have fl0_0 : FldL ⟨P, w, gx K mg, base, 6⟩ 0 0 := by obtain ⟨p, s1⟩ := T.fl0_0; exact fld_sl (t := ⟨P, w, gx K mg, base, 6⟩) (by decide) T.mc0 rfl T.sc0 s1 rfl
    have fl1_1 : FldL ⟨P, w, gx K mg, base, 6⟩ 1 1 := by obtain ⟨p, s1⟩ := T.fl1_1; exact fld_sl (t := ⟨P, w, gx K mg, base, 6⟩) (by decide) T.mc1 rfl T.sc1 s1 rfl
    have fl1_2 : FldL ⟨P, w, gx K mg, base, 6⟩ 1 2 := by obtain ⟨p, s1⟩ := T.fl1_2; exact fld_sl (t := ⟨P, w, gx K mg, base, 6⟩) (by decide) T.mc1 rfl T.sc1 s1 rfl
    have f_is_number : FnL ⟨P, w, gx K mg, base, 6⟩ "is_number" F_is_number := fn_is_number T (by decide)
    have f_check_ranges : FnL ⟨P, w, gx K mg, base, 6⟩ "check_ranges" F_check_ranges := fn_check_ranges T (by decide)
    simp only [ir_Setup___init__, needSs, needA, needB, needO, needX, needS, needT, nd_Xp_v, nd_Xo_v, nd_Xp_c, nd_Xp_g, nd_Xp_neg, nd_Xp_bin, nd_Xp_cmp, nd_Xt_cmp, nd_Xt_e, nd_Xt_not, nd_Xt_and, nd_Xt_or, nd_Xp_and, nd_Xp_or, nd_Xp_not, nd_Xp_ite, nd_Xp_chain, nd_Xt_chain, nd_Xp_ix, nd_Xp_sl, nd_Xp_tup, nd_Xp_fz, nd_Xp_hp, nd_Xn_lst, nd_Xp_call, nd_Xp_bi, nd_Xn_bi, nd_Xp_isi, nd_Ib_seq, nd_Ib_r1, nd_Ib_r2, nd_Xn_lc, nd_Sm_asg, nd_Sm_asgO, nd_Sm_asgLc, nd_Sm_asgOLc, nd_Sm_ex, nd_Sm_ret, nd_Sm_retN, nd_Sm_pass, nd_Sm_brk, nd_Sm_cont, nd_Sm_nev, nd_Sm_doc, nd_Sm_ife, nd_Sm_for_, nd_Sm_whl, nd_Sm_par, nd_Sm_app, nd_Xp_app, nd_Sm_setO, nd_Sm_setH, nd_Xp_at, nd_Xp_prop, nd_Xp_mc, nd_Sm_setA, nd_Xp_mkF, nd_Xp_mkH, nd_Xp_mul, nd_Xn_rep, nd_Xp_tupS, nd_Xn_lstS, nd_Ib_en, nd_Ib_zip2, nd_Ib_zip3, nd_Sm_tryN, nd_Xn_add, nd_Xp_lenO, nd_Xp_tzip, nd_Xn_sortK, nd_o, nd_al, nd_ar, biName, bnName, kdName, true_and, and_true]
    try exact trivial
    all_goals (repeat' (with_reducible apply And.intro))
    all_goals first | with_reducible assumption | exact trivial
  exact MemAt.mkL (gk_gx K mg) (G := gx K mg) T.d_Setup___init__ T.mc1 T.mk1 T.kc1 sc_Setup___init__ ok_Setup___init__ nd (fun _ _ _ _ _ _ us hl => match us, hl with | [_, _, _, _, _, _, _], _ => rfl) hj
theorem fn_Setup_plans (T : Txt K mg C0 C1) (hj : 3 ≤ j) : PropL ⟨P, w, gx K mg, base, j⟩ 1 "plans" F_Setup_plans := by
  have nd : needSs ir_Setup_plans ⟨P, w, gx K mg, base, 0⟩ := by
    have b_all : BtL ⟨P, w, gx K mg, base, 0⟩ "all" := T.b_all
    have b_bool : BtL ⟨P, w, gx K mg, base, 0⟩ "bool" := T.b_bool
    have b_enumerate : BtL ⟨P, w, gx K mg, base, 0⟩ "enumerate" := T.b_enumerate
    have b_int : BtL ⟨P, w, gx K mg, base, 0⟩ "int" := T.b_int
    have b_isinstance : BtL ⟨P, w, gx K mg, base, 0⟩ "isinstance" := T.b_isinstance
    have b_len : BtL ⟨P, w, gx K mg, base, 0⟩ "len" := T.b_len
    have b_max : BtL ⟨P, w, gx K mg, base, 0⟩ "max" := T.b_max
    have b_min : BtL ⟨P, w, gx K mg, base, 0⟩ "min" := T.b_min
    have b_range : BtL ⟨P, w, gx K mg, base, 0⟩ "range" := T.b_range
    have b_sorted : BtL ⟨P, w, gx K mg, base, 0⟩ "sorted" := T.b_sorted
    have b_tuple : BtL ⟨P, w, gx K mg, base, 0⟩ "tuple" := T.b_tuple
    have b_zip : BtL ⟨P, w, gx K mg, base, 0⟩ "zip" := T.b_zip
    have g_PARTS : GvL ⟨P, w, gx K mg, base, 0⟩ "PARTS" (.tup [(.str [111, 110, 95, 98, 97, 99, 107]), (.str [111, 110, 95, 102, 117, 108, 108]), (.str [111, 110, 95, 114, 101, 115, 116, 97, 114, 116])]) := T.g_PARTS
    have g_BACK_WORDS : GvL ⟨P, w, gx K mg, base, 0⟩ "BACK_WORDS" (.tup [(.str [116, 114, 117, 115, 116]), (.str [104, 111, 108, 100]), (.str [114, 101, 102, 117, 115, 101])]) := T.g_BACK_WORDS
    have g_FULL_WORDS : GvL ⟨P, w, gx K mg, base, 0⟩ "FULL_WORDS" (.tup [(.str [119, 114, 97, 112]), (.str [98, 111, 114, 114, 111, 119]), (.str [114, 101, 102, 117, 115, 101])]) := T.g_FULL_WORDS
    have g_RESTART_WORDS : GvL ⟨P, w, gx K mg, base, 0⟩ "RESTART_WORDS" (.tup [(.str [102, 111, 114, 103, 101, 116]), (.str [115, 97, 118, 101, 100]), (.str [119, 97, 105, 116])]) := T.g_RESTART_WORDS
    have g_MAX_MAKERS : GvL ⟨P, w, gx K mg, base, 0⟩ "MAX_MAKERS" (.int 2) := T.g_MAX_MAKERS
    have g_MAX_MARK : GvL ⟨P, w, gx K mg, base, 0⟩ "MAX_MARK" (.int 3) := T.g_MAX_MARK
    have g_FRESH : GvL ⟨P, w, gx K mg, base, 0⟩ "FRESH" (.tup [(.int 0), (.int (-1)), (.int 0), (.int (-1))]) := T.g_FRESH
    have g_NONE : GvL ⟨P, w, gx K mg, base, 0⟩ "NONE" (.int (-1)) := T.g_NONE
    have g_CLOCK : GvL ⟨P, w, gx K mg, base, 0⟩ "CLOCK" (.str [99, 108, 111, 99, 107]) := T.g_CLOCK
    have g_GIVE : GvL ⟨P, w, gx K mg, base, 0⟩ "GIVE" (.str [103, 105, 118, 101]) := T.g_GIVE
    have g_RESTART : GvL ⟨P, w, gx K mg, base, 0⟩ "RESTART" (.str [114, 101, 115, 116, 97, 114, 116]) := T.g_RESTART
    have fl0_0 : FldL ⟨P, w, gx K mg, base, 0⟩ 0 0 := by obtain ⟨p, s1⟩ := T.fl0_0; exact fld_sl (t := ⟨P, w, gx K mg, base, 0⟩) (by decide) T.mc0 rfl T.sc0 s1 rfl
    have fl1_1 : FldL ⟨P, w, gx K mg, base, 0⟩ 1 1 := by obtain ⟨p, s1⟩ := T.fl1_1; exact fld_sl (t := ⟨P, w, gx K mg, base, 0⟩) (by decide) T.mc1 rfl T.sc1 s1 rfl
    have fl1_2 : FldL ⟨P, w, gx K mg, base, 0⟩ 1 2 := by obtain ⟨p, s1⟩ := T.fl1_2; exact fld_sl (t := ⟨P, w, gx K mg, base, 0⟩) (by decide) T.mc1 rfl T.sc1 s1 rfl
    simp only [ir_Setup_plans, needSs, needA, needB, needO, needX, needS, needT, nd_Xp_v, nd_Xo_v, nd_Xp_c, nd_Xp_g, nd_Xp_neg, nd_Xp_bin, nd_Xp_cmp, nd_Xt_cmp, nd_Xt_e, nd_Xt_not, nd_Xt_and, nd_Xt_or, nd_Xp_and, nd_Xp_or, nd_Xp_not, nd_Xp_ite, nd_Xp_chain, nd_Xt_chain, nd_Xp_ix, nd_Xp_sl, nd_Xp_tup, nd_Xp_fz, nd_Xp_hp, nd_Xn_lst, nd_Xp_call, nd_Xp_bi, nd_Xn_bi, nd_Xp_isi, nd_Ib_seq, nd_Ib_r1, nd_Ib_r2, nd_Xn_lc, nd_Sm_asg, nd_Sm_asgO, nd_Sm_asgLc, nd_Sm_asgOLc, nd_Sm_ex, nd_Sm_ret, nd_Sm_retN, nd_Sm_pass, nd_Sm_brk, nd_Sm_cont, nd_Sm_nev, nd_Sm_doc, nd_Sm_ife, nd_Sm_for_, nd_Sm_whl, nd_Sm_par, nd_Sm_app, nd_Xp_app, nd_Sm_setO, nd_Sm_setH, nd_Xp_at, nd_Xp_prop, nd_Xp_mc, nd_Sm_setA, nd_Xp_mkF, nd_Xp_mkH, nd_Xp_mul, nd_Xn_rep, nd_Xp_tupS, nd_Xn_lstS, nd_Ib_en, nd_Ib_zip2, nd_Ib_zip3, nd_Sm_tryN, nd_Xn_add, nd_Xp_lenO, nd_Xp_tzip, nd_Xn_sortK, nd_o, nd_al, nd_ar, biName, bnName, kdName, true_and, and_true]
    try exact trivial
    all_goals (repeat' (with_reducible apply And.intro))
    all_goals first | with_reducible assumption | exact trivial
  exact PropAt.fnm (gk_gx K mg) (G := gx K mg) T.d_Setup_plans T.mc1 rfl T.sc1 sc_Setup_plans ok_Setup_plans nd (fun _ _ _ _ _ _ us hl => match us, hl with | [_], _ => rfl) hj
theorem fn_Setup_marks (T : Txt K mg C0 C1) (hj : 3 ≤ j) : PropL ⟨P, w, gx K mg, base, j⟩ 1 "marks" F_Setup_marks := by
  have nd : needSs ir_Setup_marks ⟨P, w, gx K mg, base, 0⟩ := by
    have b_all : BtL ⟨P, w, gx K mg, base, 0⟩ "all" := T.b_all
    have b_bool : BtL ⟨P, w, gx K mg, base, 0⟩ "bool" := T.b_bool
    have b_enumerate : BtL ⟨P, w, gx K mg, base, 0⟩ "enumerate" := T.b_enumerate
    have b_int : BtL ⟨P, w, gx K mg, base, 0⟩ "int" := T.b_int
    have b_isinstance : BtL ⟨P, w, gx K mg, base, 0⟩ "isinstance" := T.b_isinstance
    have b_len : BtL ⟨P, w, gx K mg, base, 0⟩ "len" := T.b_len
    have b_max : BtL ⟨P, w, gx K mg, base, 0⟩ "max" := T.b_max
    have b_min : BtL ⟨P, w, gx K mg, base, 0⟩ "min" := T.b_min
    have b_range : BtL ⟨P, w, gx K mg, base, 0⟩ "range" := T.b_range
    have b_sorted : BtL ⟨P, w, gx K mg, base, 0⟩ "sorted" := T.b_sorted
    have b_tuple : BtL ⟨P, w, gx K mg, base, 0⟩ "tuple" := T.b_tuple
    have b_zip : BtL ⟨P, w, gx K mg, base, 0⟩ "zip" := T.b_zip
    have g_PARTS : GvL ⟨P, w, gx K mg, base, 0⟩ "PARTS" (.tup [(.str [111, 110, 95, 98, 97, 99, 107]), (.str [111, 110, 95, 102, 117, 108, 108]), (.str [111, 110, 95, 114, 101, 115, 116, 97, 114, 116])]) := T.g_PARTS
    have g_BACK_WORDS : GvL ⟨P, w, gx K mg, base, 0⟩ "BACK_WORDS" (.tup [(.str [116, 114, 117, 115, 116]), (.str [104, 111, 108, 100]), (.str [114, 101, 102, 117, 115, 101])]) := T.g_BACK_WORDS
    have g_FULL_WORDS : GvL ⟨P, w, gx K mg, base, 0⟩ "FULL_WORDS" (.tup [(.str [119, 114, 97, 112]), (.str [98, 111, 114, 114, 111, 119]), (.str [114, 101, 102, 117, 115, 101])]) := T.g_FULL_WORDS
    have g_RESTART_WORDS : GvL ⟨P, w, gx K mg, base, 0⟩ "RESTART_WORDS" (.tup [(.str [102, 111, 114, 103, 101, 116]), (.str [115, 97, 118, 101, 100]), (.str [119, 97, 105, 116])]) := T.g_RESTART_WORDS
    have g_MAX_MAKERS : GvL ⟨P, w, gx K mg, base, 0⟩ "MAX_MAKERS" (.int 2) := T.g_MAX_MAKERS
    have g_MAX_MARK : GvL ⟨P, w, gx K mg, base, 0⟩ "MAX_MARK" (.int 3) := T.g_MAX_MARK
    have g_FRESH : GvL ⟨P, w, gx K mg, base, 0⟩ "FRESH" (.tup [(.int 0), (.int (-1)), (.int 0), (.int (-1))]) := T.g_FRESH
    have g_NONE : GvL ⟨P, w, gx K mg, base, 0⟩ "NONE" (.int (-1)) := T.g_NONE
    have g_CLOCK : GvL ⟨P, w, gx K mg, base, 0⟩ "CLOCK" (.str [99, 108, 111, 99, 107]) := T.g_CLOCK
    have g_GIVE : GvL ⟨P, w, gx K mg, base, 0⟩ "GIVE" (.str [103, 105, 118, 101]) := T.g_GIVE
    have g_RESTART : GvL ⟨P, w, gx K mg, base, 0⟩ "RESTART" (.str [114, 101, 115, 116, 97, 114, 116]) := T.g_RESTART
    have fl0_0 : FldL ⟨P, w, gx K mg, base, 0⟩ 0 0 := by obtain ⟨p, s1⟩ := T.fl0_0; exact fld_sl (t := ⟨P, w, gx K mg, base, 0⟩) (by decide) T.mc0 rfl T.sc0 s1 rfl
    have fl1_1 : FldL ⟨P, w, gx K mg, base, 0⟩ 1 1 := by obtain ⟨p, s1⟩ := T.fl1_1; exact fld_sl (t := ⟨P, w, gx K mg, base, 0⟩) (by decide) T.mc1 rfl T.sc1 s1 rfl
    have fl1_2 : FldL ⟨P, w, gx K mg, base, 0⟩ 1 2 := by obtain ⟨p, s1⟩ := T.fl1_2; exact fld_sl (t := ⟨P, w, gx K mg, base, 0⟩) (by decide) T.mc1 rfl T.sc1 s1 rfl
    simp only [ir_Setup_marks, needSs, needA, needB, needO, needX, needS, needT, nd_Xp_v, nd_Xo_v, nd_Xp_c, nd_Xp_g, nd_Xp_neg, nd_Xp_bin, nd_Xp_cmp, nd_Xt_cmp, nd_Xt_e, nd_Xt_not, nd_Xt_and, nd_Xt_or, nd_Xp_and, nd_Xp_or, nd_Xp_not, nd_Xp_ite, nd_Xp_chain, nd_Xt_chain, nd_Xp_ix, nd_Xp_sl, nd_Xp_tup, nd_Xp_fz, nd_Xp_hp, nd_Xn_lst, nd_Xp_call, nd_Xp_bi, nd_Xn_bi, nd_Xp_isi, nd_Ib_seq, nd_Ib_r1, nd_Ib_r2, nd_Xn_lc, nd_Sm_asg, nd_Sm_asgO, nd_Sm_asgLc, nd_Sm_asgOLc, nd_Sm_ex, nd_Sm_ret, nd_Sm_retN, nd_Sm_pass, nd_Sm_brk, nd_Sm_cont, nd_Sm_nev, nd_Sm_doc, nd_Sm_ife, nd_Sm_for_, nd_Sm_whl, nd_Sm_par, nd_Sm_app, nd_Xp_app, nd_Sm_setO, nd_Sm_setH, nd_Xp_at, nd_Xp_prop, nd_Xp_mc, nd_Sm_setA, nd_Xp_mkF, nd_Xp_mkH, nd_Xp_mul, nd_Xn_rep, nd_Xp_tupS, nd_Xn_lstS, nd_Ib_en, nd_Ib_zip2, nd_Ib_zip3, nd_Sm_tryN, nd_Xn_add, nd_Xp_lenO, nd_Xp_tzip, nd_Xn_sortK, nd_o, nd_al, nd_ar, biName, bnName, kdName, true_and, and_true]
    try exact trivial
    all_goals (repeat' (with_reducible apply And.intro))
    all_goals first | with_reducible assumption | exact trivial
  exact PropAt.fnm (gk_gx K mg) (G := gx K mg) T.d_Setup_marks T.mc1 rfl T.sc1 sc_Setup_marks ok_Setup_marks nd (fun _ _ _ _ _ _ us hl => match us, hl with | [_], _ => rfl) hj
theorem fn_Setup_top (T : Txt K mg C0 C1) (hj : 3 ≤ j) : PropL ⟨P, w, gx K mg, base, j⟩ 1 "top" F_Setup_top := by
  have nd : needSs ir_Setup_top ⟨P, w, gx K mg, base, 0⟩ := by
    have b_all : BtL ⟨P, w, gx K mg, base, 0⟩ "all" := T.b_all
    have b_bool : BtL ⟨P, w, gx K mg, base, 0⟩ "bool" := T.b_bool
    have b_enumerate : BtL ⟨P, w, gx K mg, base, 0⟩ "enumerate" := T.b_enumerate
    have b_int : BtL ⟨P, w, gx K mg, base, 0⟩ "int" := T.b_int
    have b_isinstance : BtL ⟨P, w, gx K mg, base, 0⟩ "isinstance" := T.b_isinstance
    have b_len : BtL ⟨P, w, gx K mg, base, 0⟩ "len" := T.b_len
    have b_max : BtL ⟨P, w, gx K mg, base, 0⟩ "max" := T.b_max
    have b_min : BtL ⟨P, w, gx K mg, base, 0⟩ "min" := T.b_min
    have b_range : BtL ⟨P, w, gx K mg, base, 0⟩ "range" := T.b_range
    have b_sorted : BtL ⟨P, w, gx K mg, base, 0⟩ "sorted" := T.b_sorted
    have b_tuple : BtL ⟨P, w, gx K mg, base, 0⟩ "tuple" := T.b_tuple
    have b_zip : BtL ⟨P, w, gx K mg, base, 0⟩ "zip" := T.b_zip
    have g_PARTS : GvL ⟨P, w, gx K mg, base, 0⟩ "PARTS" (.tup [(.str [111, 110, 95, 98, 97, 99, 107]), (.str [111, 110, 95, 102, 117, 108, 108]), (.str [111, 110, 95, 114, 101, 115, 116, 97, 114, 116])]) := T.g_PARTS
    have g_BACK_WORDS : GvL ⟨P, w, gx K mg, base, 0⟩ "BACK_WORDS" (.tup [(.str [116, 114, 117, 115, 116]), (.str [104, 111, 108, 100]), (.str [114, 101, 102, 117, 115, 101])]) := T.g_BACK_WORDS
    have g_FULL_WORDS : GvL ⟨P, w, gx K mg, base, 0⟩ "FULL_WORDS" (.tup [(.str [119, 114, 97, 112]), (.str [98, 111, 114, 114, 111, 119]), (.str [114, 101, 102, 117, 115, 101])]) := T.g_FULL_WORDS
    have g_RESTART_WORDS : GvL ⟨P, w, gx K mg, base, 0⟩ "RESTART_WORDS" (.tup [(.str [102, 111, 114, 103, 101, 116]), (.str [115, 97, 118, 101, 100]), (.str [119, 97, 105, 116])]) := T.g_RESTART_WORDS
    have g_MAX_MAKERS : GvL ⟨P, w, gx K mg, base, 0⟩ "MAX_MAKERS" (.int 2) := T.g_MAX_MAKERS
    have g_MAX_MARK : GvL ⟨P, w, gx K mg, base, 0⟩ "MAX_MARK" (.int 3) := T.g_MAX_MARK
    have g_FRESH : GvL ⟨P, w, gx K mg, base, 0⟩ "FRESH" (.tup [(.int 0), (.int (-1)), (.int 0), (.int (-1))]) := T.g_FRESH
    have g_NONE : GvL ⟨P, w, gx K mg, base, 0⟩ "NONE" (.int (-1)) := T.g_NONE
    have g_CLOCK : GvL ⟨P, w, gx K mg, base, 0⟩ "CLOCK" (.str [99, 108, 111, 99, 107]) := T.g_CLOCK
    have g_GIVE : GvL ⟨P, w, gx K mg, base, 0⟩ "GIVE" (.str [103, 105, 118, 101]) := T.g_GIVE
    have g_RESTART : GvL ⟨P, w, gx K mg, base, 0⟩ "RESTART" (.str [114, 101, 115, 116, 97, 114, 116]) := T.g_RESTART
    have fl0_0 : FldL ⟨P, w, gx K mg, base, 0⟩ 0 0 := by obtain ⟨p, s1⟩ := T.fl0_0; exact fld_sl (t := ⟨P, w, gx K mg, base, 0⟩) (by decide) T.mc0 rfl T.sc0 s1 rfl
    have fl1_1 : FldL ⟨P, w, gx K mg, base, 0⟩ 1 1 := by obtain ⟨p, s1⟩ := T.fl1_1; exact fld_sl (t := ⟨P, w, gx K mg, base, 0⟩) (by decide) T.mc1 rfl T.sc1 s1 rfl
    have fl1_2 : FldL ⟨P, w, gx K mg, base, 0⟩ 1 2 := by obtain ⟨p, s1⟩ := T.fl1_2; exact fld_sl (t := ⟨P, w, gx K mg, base, 0⟩) (by decide) T.mc1 rfl T.sc1 s1 rfl
    simp only [ir_Setup_top, needSs, needA, needB, needO, needX, needS, needT, nd_Xp_v, nd_Xo_v, nd_Xp_c, nd_Xp_g, nd_Xp_neg, nd_Xp_bin, nd_Xp_cmp, nd_Xt_cmp, nd_Xt_e, nd_Xt_not, nd_Xt_and, nd_Xt_or, nd_Xp_and, nd_Xp_or, nd_Xp_not, nd_Xp_ite, nd_Xp_chain, nd_Xt_chain, nd_Xp_ix, nd_Xp_sl, nd_Xp_tup, nd_Xp_fz, nd_Xp_hp, nd_Xn_lst, nd_Xp_call, nd_Xp_bi, nd_Xn_bi, nd_Xp_isi, nd_Ib_seq, nd_Ib_r1, nd_Ib_r2, nd_Xn_lc, nd_Sm_asg, nd_Sm_asgO, nd_Sm_asgLc, nd_Sm_asgOLc, nd_Sm_ex, nd_Sm_ret, nd_Sm_retN, nd_Sm_pass, nd_Sm_brk, nd_Sm_cont, nd_Sm_nev, nd_Sm_doc, nd_Sm_ife, nd_Sm_for_, nd_Sm_whl, nd_Sm_par, nd_Sm_app, nd_Xp_app, nd_Sm_setO, nd_Sm_setH, nd_Xp_at, nd_Xp_prop, nd_Xp_mc, nd_Sm_setA, nd_Xp_mkF, nd_Xp_mkH, nd_Xp_mul, nd_Xn_rep, nd_Xp_tupS, nd_Xn_lstS, nd_Ib_en, nd_Ib_zip2, nd_Ib_zip3, nd_Sm_tryN, nd_Xn_add, nd_Xp_lenO, nd_Xp_tzip, nd_Xn_sortK, nd_o, nd_al, nd_ar, biName, bnName, kdName, true_and, and_true]
    try exact trivial
    all_goals (repeat' (with_reducible apply And.intro))
    all_goals first | with_reducible assumption | exact trivial
  exact PropAt.fnm (gk_gx K mg) (G := gx K mg) T.d_Setup_top T.mc1 rfl T.sc1 sc_Setup_top ok_Setup_top nd (fun _ _ _ _ _ _ us hl => match us, hl with | [_], _ => rfl) hj
theorem fn_Setup_limit (T : Txt K mg C0 C1) (hj : 3 ≤ j) : PropL ⟨P, w, gx K mg, base, j⟩ 1 "limit" F_Setup_limit := by
  have nd : needSs ir_Setup_limit ⟨P, w, gx K mg, base, 0⟩ := by
    have b_all : BtL ⟨P, w, gx K mg, base, 0⟩ "all" := T.b_all
    have b_bool : BtL ⟨P, w, gx K mg, base, 0⟩ "bool" := T.b_bool
    have b_enumerate : BtL ⟨P, w, gx K mg, base, 0⟩ "enumerate" := T.b_enumerate
    have b_int : BtL ⟨P, w, gx K mg, base, 0⟩ "int" := T.b_int
    have b_isinstance : BtL ⟨P, w, gx K mg, base, 0⟩ "isinstance" := T.b_isinstance
    have b_len : BtL ⟨P, w, gx K mg, base, 0⟩ "len" := T.b_len
    have b_max : BtL ⟨P, w, gx K mg, base, 0⟩ "max" := T.b_max
    have b_min : BtL ⟨P, w, gx K mg, base, 0⟩ "min" := T.b_min
    have b_range : BtL ⟨P, w, gx K mg, base, 0⟩ "range" := T.b_range
    have b_sorted : BtL ⟨P, w, gx K mg, base, 0⟩ "sorted" := T.b_sorted
    have b_tuple : BtL ⟨P, w, gx K mg, base, 0⟩ "tuple" := T.b_tuple
    have b_zip : BtL ⟨P, w, gx K mg, base, 0⟩ "zip" := T.b_zip
    have g_PARTS : GvL ⟨P, w, gx K mg, base, 0⟩ "PARTS" (.tup [(.str [111, 110, 95, 98, 97, 99, 107]), (.str [111, 110, 95, 102, 117, 108, 108]), (.str [111, 110, 95, 114, 101, 115, 116, 97, 114, 116])]) := T.g_PARTS
    have g_BACK_WORDS : GvL ⟨P, w, gx K mg, base, 0⟩ "BACK_WORDS" (.tup [(.str [116, 114, 117, 115, 116]), (.str [104, 111, 108, 100]), (.str [114, 101, 102, 117, 115, 101])]) := T.g_BACK_WORDS
    have g_FULL_WORDS : GvL ⟨P, w, gx K mg, base, 0⟩ "FULL_WORDS" (.tup [(.str [119, 114, 97, 112]), (.str [98, 111, 114, 114, 111, 119]), (.str [114, 101, 102, 117, 115, 101])]) := T.g_FULL_WORDS
    have g_RESTART_WORDS : GvL ⟨P, w, gx K mg, base, 0⟩ "RESTART_WORDS" (.tup [(.str [102, 111, 114, 103, 101, 116]), (.str [115, 97, 118, 101, 100]), (.str [119, 97, 105, 116])]) := T.g_RESTART_WORDS
    have g_MAX_MAKERS : GvL ⟨P, w, gx K mg, base, 0⟩ "MAX_MAKERS" (.int 2) := T.g_MAX_MAKERS
    have g_MAX_MARK : GvL ⟨P, w, gx K mg, base, 0⟩ "MAX_MARK" (.int 3) := T.g_MAX_MARK
    have g_FRESH : GvL ⟨P, w, gx K mg, base, 0⟩ "FRESH" (.tup [(.int 0), (.int (-1)), (.int 0), (.int (-1))]) := T.g_FRESH
    have g_NONE : GvL ⟨P, w, gx K mg, base, 0⟩ "NONE" (.int (-1)) := T.g_NONE
    have g_CLOCK : GvL ⟨P, w, gx K mg, base, 0⟩ "CLOCK" (.str [99, 108, 111, 99, 107]) := T.g_CLOCK
    have g_GIVE : GvL ⟨P, w, gx K mg, base, 0⟩ "GIVE" (.str [103, 105, 118, 101]) := T.g_GIVE
    have g_RESTART : GvL ⟨P, w, gx K mg, base, 0⟩ "RESTART" (.str [114, 101, 115, 116, 97, 114, 116]) := T.g_RESTART
    have fl0_0 : FldL ⟨P, w, gx K mg, base, 0⟩ 0 0 := by obtain ⟨p, s1⟩ := T.fl0_0; exact fld_sl (t := ⟨P, w, gx K mg, base, 0⟩) (by decide) T.mc0 rfl T.sc0 s1 rfl
    have fl1_1 : FldL ⟨P, w, gx K mg, base, 0⟩ 1 1 := by obtain ⟨p, s1⟩ := T.fl1_1; exact fld_sl (t := ⟨P, w, gx K mg, base, 0⟩) (by decide) T.mc1 rfl T.sc1 s1 rfl
    have fl1_2 : FldL ⟨P, w, gx K mg, base, 0⟩ 1 2 := by obtain ⟨p, s1⟩ := T.fl1_2; exact fld_sl (t := ⟨P, w, gx K mg, base, 0⟩) (by decide) T.mc1 rfl T.sc1 s1 rfl
    simp only [ir_Setup_limit, needSs, needA, needB, needO, needX, needS, needT, nd_Xp_v, nd_Xo_v, nd_Xp_c, nd_Xp_g, nd_Xp_neg, nd_Xp_bin, nd_Xp_cmp, nd_Xt_cmp, nd_Xt_e, nd_Xt_not, nd_Xt_and, nd_Xt_or, nd_Xp_and, nd_Xp_or, nd_Xp_not, nd_Xp_ite, nd_Xp_chain, nd_Xt_chain, nd_Xp_ix, nd_Xp_sl, nd_Xp_tup, nd_Xp_fz, nd_Xp_hp, nd_Xn_lst, nd_Xp_call, nd_Xp_bi, nd_Xn_bi, nd_Xp_isi, nd_Ib_seq, nd_Ib_r1, nd_Ib_r2, nd_Xn_lc, nd_Sm_asg, nd_Sm_asgO, nd_Sm_asgLc, nd_Sm_asgOLc, nd_Sm_ex, nd_Sm_ret, nd_Sm_retN, nd_Sm_pass, nd_Sm_brk, nd_Sm_cont, nd_Sm_nev, nd_Sm_doc, nd_Sm_ife, nd_Sm_for_, nd_Sm_whl, nd_Sm_par, nd_Sm_app, nd_Xp_app, nd_Sm_setO, nd_Sm_setH, nd_Xp_at, nd_Xp_prop, nd_Xp_mc, nd_Sm_setA, nd_Xp_mkF, nd_Xp_mkH, nd_Xp_mul, nd_Xn_rep, nd_Xp_tupS, nd_Xn_lstS, nd_Ib_en, nd_Ib_zip2, nd_Ib_zip3, nd_Sm_tryN, nd_Xn_add, nd_Xp_lenO, nd_Xp_tzip, nd_Xn_sortK, nd_o, nd_al, nd_ar, biName, bnName, kdName, true_and, and_true]
    try exact trivial
    all_goals (repeat' (with_reducible apply And.intro))
    all_goals first | with_reducible assumption | exact trivial
  exact PropAt.fnm (gk_gx K mg) (G := gx K mg) T.d_Setup_limit T.mc1 rfl T.sc1 sc_Setup_limit ok_Setup_limit nd (fun _ _ _ _ _ _ us hl => match us, hl with | [_], _ => rfl) hj
theorem fn_Setup_back (T : Txt K mg C0 C1) (hj : 3 ≤ j) : PropL ⟨P, w, gx K mg, base, j⟩ 1 "back" F_Setup_back := by
  have nd : needSs ir_Setup_back ⟨P, w, gx K mg, base, 0⟩ := by
    have b_all : BtL ⟨P, w, gx K mg, base, 0⟩ "all" := T.b_all
    have b_bool : BtL ⟨P, w, gx K mg, base, 0⟩ "bool" := T.b_bool
    have b_enumerate : BtL ⟨P, w, gx K mg, base, 0⟩ "enumerate" := T.b_enumerate
    have b_int : BtL ⟨P, w, gx K mg, base, 0⟩ "int" := T.b_int
    have b_isinstance : BtL ⟨P, w, gx K mg, base, 0⟩ "isinstance" := T.b_isinstance
    have b_len : BtL ⟨P, w, gx K mg, base, 0⟩ "len" := T.b_len
    have b_max : BtL ⟨P, w, gx K mg, base, 0⟩ "max" := T.b_max
    have b_min : BtL ⟨P, w, gx K mg, base, 0⟩ "min" := T.b_min
    have b_range : BtL ⟨P, w, gx K mg, base, 0⟩ "range" := T.b_range
    have b_sorted : BtL ⟨P, w, gx K mg, base, 0⟩ "sorted" := T.b_sorted
    have b_tuple : BtL ⟨P, w, gx K mg, base, 0⟩ "tuple" := T.b_tuple
    have b_zip : BtL ⟨P, w, gx K mg, base, 0⟩ "zip" := T.b_zip
    have g_PARTS : GvL ⟨P, w, gx K mg, base, 0⟩ "PARTS" (.tup [(.str [111, 110, 95, 98, 97, 99, 107]), (.str [111, 110, 95, 102, 117, 108, 108]), (.str [111, 110, 95, 114, 101, 115, 116, 97, 114, 116])]) := T.g_PARTS
    have g_BACK_WORDS : GvL ⟨P, w, gx K mg, base, 0⟩ "BACK_WORDS" (.tup [(.str [116, 114, 117, 115, 116]), (.str [104, 111, 108, 100]), (.str [114, 101, 102, 117, 115, 101])]) := T.g_BACK_WORDS
    have g_FULL_WORDS : GvL ⟨P, w, gx K mg, base, 0⟩ "FULL_WORDS" (.tup [(.str [119, 114, 97, 112]), (.str [98, 111, 114, 114, 111, 119]), (.str [114, 101, 102, 117, 115, 101])]) := T.g_FULL_WORDS
    have g_RESTART_WORDS : GvL ⟨P, w, gx K mg, base, 0⟩ "RESTART_WORDS" (.tup [(.str [102, 111, 114, 103, 101, 116]), (.str [115, 97, 118, 101, 100]), (.str [119, 97, 105, 116])]) := T.g_RESTART_WORDS
    have g_MAX_MAKERS : GvL ⟨P, w, gx K mg, base, 0⟩ "MAX_MAKERS" (.int 2) := T.g_MAX_MAKERS
    have g_MAX_MARK : GvL ⟨P, w, gx K mg, base, 0⟩ "MAX_MARK" (.int 3) := T.g_MAX_MARK
    have g_FRESH : GvL ⟨P, w, gx K mg, base, 0⟩ "FRESH" (.tup [(.int 0), (.int (-1)), (.int 0), (.int (-1))]) := T.g_FRESH
    have g_NONE : GvL ⟨P, w, gx K mg, base, 0⟩ "NONE" (.int (-1)) := T.g_NONE
    have g_CLOCK : GvL ⟨P, w, gx K mg, base, 0⟩ "CLOCK" (.str [99, 108, 111, 99, 107]) := T.g_CLOCK
    have g_GIVE : GvL ⟨P, w, gx K mg, base, 0⟩ "GIVE" (.str [103, 105, 118, 101]) := T.g_GIVE
    have g_RESTART : GvL ⟨P, w, gx K mg, base, 0⟩ "RESTART" (.str [114, 101, 115, 116, 97, 114, 116]) := T.g_RESTART
    have fl0_0 : FldL ⟨P, w, gx K mg, base, 0⟩ 0 0 := by obtain ⟨p, s1⟩ := T.fl0_0; exact fld_sl (t := ⟨P, w, gx K mg, base, 0⟩) (by decide) T.mc0 rfl T.sc0 s1 rfl
    have fl1_1 : FldL ⟨P, w, gx K mg, base, 0⟩ 1 1 := by obtain ⟨p, s1⟩ := T.fl1_1; exact fld_sl (t := ⟨P, w, gx K mg, base, 0⟩) (by decide) T.mc1 rfl T.sc1 s1 rfl
    have fl1_2 : FldL ⟨P, w, gx K mg, base, 0⟩ 1 2 := by obtain ⟨p, s1⟩ := T.fl1_2; exact fld_sl (t := ⟨P, w, gx K mg, base, 0⟩) (by decide) T.mc1 rfl T.sc1 s1 rfl
    simp only [ir_Setup_back, needSs, needA, needB, needO, needX, needS, needT, nd_Xp_v, nd_Xo_v, nd_Xp_c, nd_Xp_g, nd_Xp_neg, nd_Xp_bin, nd_Xp_cmp, nd_Xt_cmp, nd_Xt_e, nd_Xt_not, nd_Xt_and, nd_Xt_or, nd_Xp_and, nd_Xp_or, nd_Xp_not, nd_Xp_ite, nd_Xp_chain, nd_Xt_chain, nd_Xp_ix, nd_Xp_sl, nd_Xp_tup, nd_Xp_fz, nd_Xp_hp, nd_Xn_lst, nd_Xp_call, nd_Xp_bi, nd_Xn_bi, nd_Xp_isi, nd_Ib_seq, nd_Ib_r1, nd_Ib_r2, nd_Xn_lc, nd_Sm_asg, nd_Sm_asgO, nd_Sm_asgLc, nd_Sm_asgOLc, nd_Sm_ex, nd_Sm_ret, nd_Sm_retN, nd_Sm_pass, nd_Sm_brk, nd_Sm_cont, nd_Sm_nev, nd_Sm_doc, nd_Sm_ife, nd_Sm_for_, nd_Sm_whl, nd_Sm_par, nd_Sm_app, nd_Xp_app, nd_Sm_setO, nd_Sm_setH, nd_Xp_at, nd_Xp_prop, nd_Xp_mc, nd_Sm_setA, nd_Xp_mkF, nd_Xp_mkH, nd_Xp_mul, nd_Xn_rep, nd_Xp_tupS, nd_Xn_lstS, nd_Ib_en, nd_Ib_zip2, nd_Ib_zip3, nd_Sm_tryN, nd_Xn_add, nd_Xp_lenO, nd_Xp_tzip, nd_Xn_sortK, nd_o, nd_al, nd_ar, biName, bnName, kdName, true_and, and_true]
    try exact trivial
    all_goals (repeat' (with_reducible apply And.intro))
    all_goals first | with_reducible assumption | exact trivial
  exact PropAt.fnm (gk_gx K mg) (G := gx K mg) T.d_Setup_back T.mc1 rfl T.sc1 sc_Setup_back ok_Setup_back nd (fun _ _ _ _ _ _ us hl => match us, hl with | [_], _ => rfl) hj
theorem fn_Setup_ahead (T : Txt K mg C0 C1) (hj : 3 ≤ j) : PropL ⟨P, w, gx K mg, base, j⟩ 1 "ahead" F_Setup_ahead := by
  have nd : needSs ir_Setup_ahead ⟨P, w, gx K mg, base, 0⟩ := by
    have b_all : BtL ⟨P, w, gx K mg, base, 0⟩ "all" := T.b_all
    have b_bool : BtL ⟨P, w, gx K mg, base, 0⟩ "bool" := T.b_bool
    have b_enumerate : BtL ⟨P, w, gx K mg, base, 0⟩ "enumerate" := T.b_enumerate
    have b_int : BtL ⟨P, w, gx K mg, base, 0⟩ "int" := T.b_int
    have b_isinstance : BtL ⟨P, w, gx K mg, base, 0⟩ "isinstance" := T.b_isinstance
    have b_len : BtL ⟨P, w, gx K mg, base, 0⟩ "len" := T.b_len
    have b_max : BtL ⟨P, w, gx K mg, base, 0⟩ "max" := T.b_max
    have b_min : BtL ⟨P, w, gx K mg, base, 0⟩ "min" := T.b_min
    have b_range : BtL ⟨P, w, gx K mg, base, 0⟩ "range" := T.b_range
    have b_sorted : BtL ⟨P, w, gx K mg, base, 0⟩ "sorted" := T.b_sorted
    have b_tuple : BtL ⟨P, w, gx K mg, base, 0⟩ "tuple" := T.b_tuple
    have b_zip : BtL ⟨P, w, gx K mg, base, 0⟩ "zip" := T.b_zip
    have g_PARTS : GvL ⟨P, w, gx K mg, base, 0⟩ "PARTS" (.tup [(.str [111, 110, 95, 98, 97, 99, 107]), (.str [111, 110, 95, 102, 117, 108, 108]), (.str [111, 110, 95, 114, 101, 115, 116, 97, 114, 116])]) := T.g_PARTS
    have g_BACK_WORDS : GvL ⟨P, w, gx K mg, base, 0⟩ "BACK_WORDS" (.tup [(.str [116, 114, 117, 115, 116]), (.str [104, 111, 108, 100]), (.str [114, 101, 102, 117, 115, 101])]) := T.g_BACK_WORDS
    have g_FULL_WORDS : GvL ⟨P, w, gx K mg, base, 0⟩ "FULL_WORDS" (.tup [(.str [119, 114, 97, 112]), (.str [98, 111, 114, 114, 111, 119]), (.str [114, 101, 102, 117, 115, 101])]) := T.g_FULL_WORDS
    have g_RESTART_WORDS : GvL ⟨P, w, gx K mg, base, 0⟩ "RESTART_WORDS" (.tup [(.str [102, 111, 114, 103, 101, 116]), (.str [115, 97, 118, 101, 100]), (.str [119, 97, 105, 116])]) := T.g_RESTART_WORDS
    have g_MAX_MAKERS : GvL ⟨P, w, gx K mg, base, 0⟩ "MAX_MAKERS" (.int 2) := T.g_MAX_MAKERS
    have g_MAX_MARK : GvL ⟨P, w, gx K mg, base, 0⟩ "MAX_MARK" (.int 3) := T.g_MAX_MARK
    have g_FRESH : GvL ⟨P, w, gx K mg, base, 0⟩ "FRESH" (.tup [(.int 0), (.int (-1)), (.int 0), (.int (-1))]) := T.g_FRESH
    have g_NONE : GvL ⟨P, w, gx K mg, base, 0⟩ "NONE" (.int (-1)) := T.g_NONE
    have g_CLOCK : GvL ⟨P, w, gx K mg, base, 0⟩ "CLOCK" (.str [99, 108, 111, 99, 107]) := T.g_CLOCK
    have g_GIVE : GvL ⟨P, w, gx K mg, base, 0⟩ "GIVE" (.str [103, 105, 118, 101]) := T.g_GIVE
    have g_RESTART : GvL ⟨P, w, gx K mg, base, 0⟩ "RESTART" (.str [114, 101, 115, 116, 97, 114, 116]) := T.g_RESTART
    have fl0_0 : FldL ⟨P, w, gx K mg, base, 0⟩ 0 0 := by obtain ⟨p, s1⟩ := T.fl0_0; exact fld_sl (t := ⟨P, w, gx K mg, base, 0⟩) (by decide) T.mc0 rfl T.sc0 s1 rfl
    have fl1_1 : FldL ⟨P, w, gx K mg, base, 0⟩ 1 1 := by obtain ⟨p, s1⟩ := T.fl1_1; exact fld_sl (t := ⟨P, w, gx K mg, base, 0⟩) (by decide) T.mc1 rfl T.sc1 s1 rfl
    have fl1_2 : FldL ⟨P, w, gx K mg, base, 0⟩ 1 2 := by obtain ⟨p, s1⟩ := T.fl1_2; exact fld_sl (t := ⟨P, w, gx K mg, base, 0⟩) (by decide) T.mc1 rfl T.sc1 s1 rfl
    simp only [ir_Setup_ahead, needSs, needA, needB, needO, needX, needS, needT, nd_Xp_v, nd_Xo_v, nd_Xp_c, nd_Xp_g, nd_Xp_neg, nd_Xp_bin, nd_Xp_cmp, nd_Xt_cmp, nd_Xt_e, nd_Xt_not, nd_Xt_and, nd_Xt_or, nd_Xp_and, nd_Xp_or, nd_Xp_not, nd_Xp_ite, nd_Xp_chain, nd_Xt_chain, nd_Xp_ix, nd_Xp_sl, nd_Xp_tup, nd_Xp_fz, nd_Xp_hp, nd_Xn_lst, nd_Xp_call, nd_Xp_bi, nd_Xn_bi, nd_Xp_isi, nd_Ib_seq, nd_Ib_r1, nd_Ib_r2, nd_Xn_lc, nd_Sm_asg, nd_Sm_asgO, nd_Sm_asgLc, nd_Sm_asgOLc, nd_Sm_ex, nd_Sm_ret, nd_Sm_retN, nd_Sm_pass, nd_Sm_brk, nd_Sm_cont, nd_Sm_nev, nd_Sm_doc, nd_Sm_ife, nd_Sm_for_, nd_Sm_whl, nd_Sm_par, nd_Sm_app, nd_Xp_app, nd_Sm_setO, nd_Sm_setH, nd_Xp_at, nd_Xp_prop, nd_Xp_mc, nd_Sm_setA, nd_Xp_mkF, nd_Xp_mkH, nd_Xp_mul, nd_Xn_rep, nd_Xp_tupS, nd_Xn_lstS, nd_Ib_en, nd_Ib_zip2, nd_Ib_zip3, nd_Sm_tryN, nd_Xn_add, nd_Xp_lenO, nd_Xp_tzip, nd_Xn_sortK, nd_o, nd_al, nd_ar, biName, bnName, kdName, true_and, and_true]
    try exact trivial
    all_goals (repeat' (with_reducible apply And.intro))
    all_goals first | with_reducible assumption | exact trivial
  exact PropAt.fnm (gk_gx K mg) (G := gx K mg) T.d_Setup_ahead T.mc1 rfl T.sc1 sc_Setup_ahead ok_Setup_ahead nd (fun _ _ _ _ _ _ us hl => match us, hl with | [_], _ => rfl) hj
theorem fn_Setup___len__ (T : Txt K mg C0 C1) (hj : 3 ≤ j) : LenL ⟨P, w, gx K mg, base, j⟩ 1 F_Setup___len__ := by
  have nd : needSs ir_Setup___len__ ⟨P, w, gx K mg, base, 0⟩ := by
    have b_all : BtL ⟨P, w, gx K mg, base, 0⟩ "all" := T.b_all
    have b_bool : BtL ⟨P, w, gx K mg, base, 0⟩ "bool" := T.b_bool
    have b_enumerate : BtL ⟨P, w, gx K mg, base, 0⟩ "enumerate" := T.b_enumerate
    have b_int : BtL ⟨P, w, gx K mg, base, 0⟩ "int" := T.b_int
    have b_isinstance : BtL ⟨P, w, gx K mg, base, 0⟩ "isinstance" := T.b_isinstance
    have b_len : BtL ⟨P, w, gx K mg, base, 0⟩ "len" := T.b_len
    have b_max : BtL ⟨P, w, gx K mg, base, 0⟩ "max" := T.b_max
    have b_min : BtL ⟨P, w, gx K mg, base, 0⟩ "min" := T.b_min
    have b_range : BtL ⟨P, w, gx K mg, base, 0⟩ "range" := T.b_range
    have b_sorted : BtL ⟨P, w, gx K mg, base, 0⟩ "sorted" := T.b_sorted
    have b_tuple : BtL ⟨P, w, gx K mg, base, 0⟩ "tuple" := T.b_tuple
    have b_zip : BtL ⟨P, w, gx K mg, base, 0⟩ "zip" := T.b_zip
    have g_PARTS : GvL ⟨P, w, gx K mg, base, 0⟩ "PARTS" (.tup [(.str [111, 110, 95, 98, 97, 99, 107]), (.str [111, 110, 95, 102, 117, 108, 108]), (.str [111, 110, 95, 114, 101, 115, 116, 97, 114, 116])]) := T.g_PARTS
    have g_BACK_WORDS : GvL ⟨P, w, gx K mg, base, 0⟩ "BACK_WORDS" (.tup [(.str [116, 114, 117, 115, 116]), (.str [104, 111, 108, 100]), (.str [114, 101, 102, 117, 115, 101])]) := T.g_BACK_WORDS
    have g_FULL_WORDS : GvL ⟨P, w, gx K mg, base, 0⟩ "FULL_WORDS" (.tup [(.str [119, 114, 97, 112]), (.str [98, 111, 114, 114, 111, 119]), (.str [114, 101, 102, 117, 115, 101])]) := T.g_FULL_WORDS
    have g_RESTART_WORDS : GvL ⟨P, w, gx K mg, base, 0⟩ "RESTART_WORDS" (.tup [(.str [102, 111, 114, 103, 101, 116]), (.str [115, 97, 118, 101, 100]), (.str [119, 97, 105, 116])]) := T.g_RESTART_WORDS
    have g_MAX_MAKERS : GvL ⟨P, w, gx K mg, base, 0⟩ "MAX_MAKERS" (.int 2) := T.g_MAX_MAKERS
    have g_MAX_MARK : GvL ⟨P, w, gx K mg, base, 0⟩ "MAX_MARK" (.int 3) := T.g_MAX_MARK
    have g_FRESH : GvL ⟨P, w, gx K mg, base, 0⟩ "FRESH" (.tup [(.int 0), (.int (-1)), (.int 0), (.int (-1))]) := T.g_FRESH
    have g_NONE : GvL ⟨P, w, gx K mg, base, 0⟩ "NONE" (.int (-1)) := T.g_NONE
    have g_CLOCK : GvL ⟨P, w, gx K mg, base, 0⟩ "CLOCK" (.str [99, 108, 111, 99, 107]) := T.g_CLOCK
    have g_GIVE : GvL ⟨P, w, gx K mg, base, 0⟩ "GIVE" (.str [103, 105, 118, 101]) := T.g_GIVE
    have g_RESTART : GvL ⟨P, w, gx K mg, base, 0⟩ "RESTART" (.str [114, 101, 115, 116, 97, 114, 116]) := T.g_RESTART
    have fl0_0 : FldL ⟨P, w, gx K mg, base, 0⟩ 0 0 := by obtain ⟨p, s1⟩ := T.fl0_0; exact fld_sl (t := ⟨P, w, gx K mg, base, 0⟩) (by decide) T.mc0 rfl T.sc0 s1 rfl
    have fl1_1 : FldL ⟨P, w, gx K mg, base, 0⟩ 1 1 := by obtain ⟨p, s1⟩ := T.fl1_1; exact fld_sl (t := ⟨P, w, gx K mg, base, 0⟩) (by decide) T.mc1 rfl T.sc1 s1 rfl
    have fl1_2 : FldL ⟨P, w, gx K mg, base, 0⟩ 1 2 := by obtain ⟨p, s1⟩ := T.fl1_2; exact fld_sl (t := ⟨P, w, gx K mg, base, 0⟩) (by decide) T.mc1 rfl T.sc1 s1 rfl
    simp only [ir_Setup___len__, needSs, needA, needB, needO, needX, needS, needT, nd_Xp_v, nd_Xo_v, nd_Xp_c, nd_Xp_g, nd_Xp_neg, nd_Xp_bin, nd_Xp_cmp, nd_Xt_cmp, nd_Xt_e, nd_Xt_not, nd_Xt_and, nd_Xt_or, nd_Xp_and, nd_Xp_or, nd_Xp_not, nd_Xp_ite, nd_Xp_chain, nd_Xt_chain, nd_Xp_ix, nd_Xp_sl, nd_Xp_tup, nd_Xp_fz, nd_Xp_hp, nd_Xn_lst, nd_Xp_call, nd_Xp_bi, nd_Xn_bi, nd_Xp_isi, nd_Ib_seq, nd_Ib_r1, nd_Ib_r2, nd_Xn_lc, nd_Sm_asg, nd_Sm_asgO, nd_Sm_asgLc, nd_Sm_asgOLc, nd_Sm_ex, nd_Sm_ret, nd_Sm_retN, nd_Sm_pass, nd_Sm_brk, nd_Sm_cont, nd_Sm_nev, nd_Sm_doc, nd_Sm_ife, nd_Sm_for_, nd_Sm_whl, nd_Sm_par, nd_Sm_app, nd_Xp_app, nd_Sm_setO, nd_Sm_setH, nd_Xp_at, nd_Xp_prop, nd_Xp_mc, nd_Sm_setA, nd_Xp_mkF, nd_Xp_mkH, nd_Xp_mul, nd_Xn_rep, nd_Xp_tupS, nd_Xn_lstS, nd_Ib_en, nd_Ib_zip2, nd_Ib_zip3, nd_Sm_tryN, nd_Xn_add, nd_Xp_lenO, nd_Xp_tzip, nd_Xn_sortK, nd_o, nd_al, nd_ar, biName, bnName, kdName, true_and, and_true]
    try exact trivial
    all_goals (repeat' (with_reducible apply And.intro))
    all_goals first | with_reducible assumption | exact trivial
  exact MemAt.lenL (gk_gx K mg) (G := gx K mg) T.d_Setup___len__ T.mc1 rfl sc_Setup___len__ ok_Setup___len__ nd (fun _ _ _ _ _ _ us hl => match us, hl with | [_], _ => rfl) hj
theorem fn_begin (T : Txt K mg C0 C1) (hj : 6 ≤ j) : FnL ⟨P, w, gx K mg, base, j⟩ "begin" F_begin := by
  have nd : needSs ir_begin ⟨P, w, gx K mg, base, 3⟩ := by
    have b_all : BtL ⟨P, w, gx K mg, base, 3⟩ "all" := T.b_all
    have b_bool : BtL ⟨P, w, gx K mg, base, 3⟩ "bool" := T.b_bool
    have b_enumerate : BtL ⟨P, w, gx K mg, base, 3⟩ "enumerate" := T.b_enumerate
    have b_int : BtL ⟨P, w, gx K mg, base, 3⟩ "int" := T.b_int
    have b_isinstance : BtL ⟨P, w, gx K mg, base, 3⟩ "isinstance" := T.b_isinstance
    have b_len : BtL ⟨P, w, gx K mg, base, 3⟩ "len" := T.b_len
    have b_max : BtL ⟨P, w, gx K mg, base, 3⟩ "max" := T.b_max
    have b_min : BtL ⟨P, w, gx K mg, base, 3⟩ "min" := T.b_min
    have b_range : BtL ⟨P, w, gx K mg, base, 3⟩ "range" := T.b_range
    have b_sorted : BtL ⟨P, w, gx K mg, base, 3⟩ "sorted" := T.b_sorted
    have b_tuple : BtL ⟨P, w, gx K mg, base, 3⟩ "tuple" := T.b_tuple
    have b_zip : BtL ⟨P, w, gx K mg, base, 3⟩ "zip" := T.b_zip
    have g_PARTS : GvL ⟨P, w, gx K mg, base, 3⟩ "PARTS" (.tup [(.str [111, 110, 95, 98, 97, 99, 107]), (.str [111, 110, 95, 102, 117, 108, 108]), (.str [111, 110, 95, 114, 101, 115, 116, 97, 114, 116])]) := T.g_PARTS
    have g_BACK_WORDS : GvL ⟨P, w, gx K mg, base, 3⟩ "BACK_WORDS" (.tup [(.str [116, 114, 117, 115, 116]), (.str [104, 111, 108, 100]), (.str [114, 101, 102, 117, 115, 101])]) := T.g_BACK_WORDS
    have g_FULL_WORDS : GvL ⟨P, w, gx K mg, base, 3⟩ "FULL_WORDS" (.tup [(.str [119, 114, 97, 112]), (.str [98, 111, 114, 114, 111, 119]), (.str [114, 101, 102, 117, 115, 101])]) := T.g_FULL_WORDS
    have g_RESTART_WORDS : GvL ⟨P, w, gx K mg, base, 3⟩ "RESTART_WORDS" (.tup [(.str [102, 111, 114, 103, 101, 116]), (.str [115, 97, 118, 101, 100]), (.str [119, 97, 105, 116])]) := T.g_RESTART_WORDS
    have g_MAX_MAKERS : GvL ⟨P, w, gx K mg, base, 3⟩ "MAX_MAKERS" (.int 2) := T.g_MAX_MAKERS
    have g_MAX_MARK : GvL ⟨P, w, gx K mg, base, 3⟩ "MAX_MARK" (.int 3) := T.g_MAX_MARK
    have g_FRESH : GvL ⟨P, w, gx K mg, base, 3⟩ "FRESH" (.tup [(.int 0), (.int (-1)), (.int 0), (.int (-1))]) := T.g_FRESH
    have g_NONE : GvL ⟨P, w, gx K mg, base, 3⟩ "NONE" (.int (-1)) := T.g_NONE
    have g_CLOCK : GvL ⟨P, w, gx K mg, base, 3⟩ "CLOCK" (.str [99, 108, 111, 99, 107]) := T.g_CLOCK
    have g_GIVE : GvL ⟨P, w, gx K mg, base, 3⟩ "GIVE" (.str [103, 105, 118, 101]) := T.g_GIVE
    have g_RESTART : GvL ⟨P, w, gx K mg, base, 3⟩ "RESTART" (.str [114, 101, 115, 116, 97, 114, 116]) := T.g_RESTART
    have fl0_0 : FldL ⟨P, w, gx K mg, base, 3⟩ 0 0 := by obtain ⟨p, s1⟩ := T.fl0_0; exact fld_sl (t := ⟨P, w, gx K mg, base, 3⟩) (by decide) T.mc0 rfl T.sc0 s1 rfl
    have fl1_1 : FldL ⟨P, w, gx K mg, base, 3⟩ 1 1 := by obtain ⟨p, s1⟩ := T.fl1_1; exact fld_sl (t := ⟨P, w, gx K mg, base, 3⟩) (by decide) T.mc1 rfl T.sc1 s1 rfl
    have fl1_2 : FldL ⟨P, w, gx K mg, base, 3⟩ 1 2 := by obtain ⟨p, s1⟩ := T.fl1_2; exact fld_sl (t := ⟨P, w, gx K mg, base, 3⟩) (by decide) T.mc1 rfl T.sc1 s1 rfl
    have f_Setup___len__ : LenL ⟨P, w, gx K mg, base, 3⟩ 1 F_Setup___len__ := fn_Setup___len__ T (by decide)
    simp only [ir_begin, needSs, needA, needB, needO, needX, needS, needT, nd_Xp_v, nd_Xo_v, nd_Xp_c, nd_Xp_g, nd_Xp_neg, nd_Xp_bin, nd_Xp_cmp, nd_Xt_cmp, nd_Xt_e, nd_Xt_not, nd_Xt_and, nd_Xt_or, nd_Xp_and, nd_Xp_or, nd_Xp_not, nd_Xp_ite, nd_Xp_chain, nd_Xt_chain, nd_Xp_ix, nd_Xp_sl, nd_Xp_tup, nd_Xp_fz, nd_Xp_hp, nd_Xn_lst, nd_Xp_call, nd_Xp_bi, nd_Xn_bi, nd_Xp_isi, nd_Ib_seq, nd_Ib_r1, nd_Ib_r2, nd_Xn_lc, nd_Sm_asg, nd_Sm_asgO, nd_Sm_asgLc, nd_Sm_asgOLc, nd_Sm_ex, nd_Sm_ret, nd_Sm_retN, nd_Sm_pass, nd_Sm_brk, nd_Sm_cont, nd_Sm_nev, nd_Sm_doc, nd_Sm_ife, nd_Sm_for_, nd_Sm_whl, nd_Sm_par, nd_Sm_app, nd_Xp_app, nd_Sm_setO, nd_Sm_setH, nd_Xp_at, nd_Xp_prop, nd_Xp_mc, nd_Sm_setA, nd_Xp_mkF, nd_Xp_mkH, nd_Xp_mul, nd_Xn_rep, nd_Xp_tupS, nd_Xn_lstS, nd_Ib_en, nd_Ib_zip2, nd_Ib_zip3, nd_Sm_tryN, nd_Xn_add, nd_Xp_lenO, nd_Xp_tzip, nd_Xn_sortK, nd_o, nd_al, nd_ar, biName, bnName, kdName, true_and, and_true]
    try exact trivial
    all_goals (repeat' (with_reducible apply And.intro))
    all_goals first | with_reducible assumption | exact trivial
  exact FnL.pure (gk_gx K mg) (DefAt.fnm (gk_gx K mg) (G := gx K mg) T.d_begin sc_begin ok_begin nd (fun _ _ _ _ _ _ us hl => match us, hl with | [_], _ => rfl) hj)
theorem fn_is_single (T : Txt K mg C0 C1) (hj : 6 ≤ j) : FnL ⟨P, w, gx K mg, base, j⟩ "is_single" F_is_single := by
  have nd : needSs ir_is_single ⟨P, w, gx K mg, base, 3⟩ := by
    have b_all : BtL ⟨P, w, gx K mg, base, 3⟩ "all" := T.b_all
    have b_bool : BtL ⟨P, w, gx K mg, base, 3⟩ "bool" := T.b_bool
    have b_enumerate : BtL ⟨P, w, gx K mg, base, 3⟩ "enumerate" := T.b_enumerate
    have b_int : BtL ⟨P, w, gx K mg, base, 3⟩ "int" := T.b_int
    have b_isinstance : BtL ⟨P, w, gx K mg, base, 3⟩ "isinstance" := T.b_isinstance
    have b_len : BtL ⟨P, w, gx K mg, base, 3⟩ "len" := T.b_len
    have b_max : BtL ⟨P, w, gx K mg, base, 3⟩ "max" := T.b_max
    have b_min : BtL ⟨P, w, gx K mg, base, 3⟩ "min" := T.b_min
    have b_range : BtL ⟨P, w, gx K mg, base, 3⟩ "range" := T.b_range
    have b_sorted : BtL ⟨P, w, gx K mg, base, 3⟩ "sorted" := T.b_sorted
    have b_tuple : BtL ⟨P, w, gx K mg, base, 3⟩ "tuple" := T.b_tuple
    have b_zip : BtL ⟨P, w, gx K mg, base, 3⟩ "zip" := T.b_zip
    have g_PARTS : GvL ⟨P, w, gx K mg, base, 3⟩ "PARTS" (.tup [(.str [111, 110, 95, 98, 97, 99, 107]), (.str [111, 110, 95, 102, 117, 108, 108]), (.str [111, 110, 95, 114, 101, 115, 116, 97, 114, 116])]) := T.g_PARTS
    have g_BACK_WORDS : GvL ⟨P, w, gx K mg, base, 3⟩ "BACK_WORDS" (.tup [(.str [116, 114, 117, 115, 116]), (.str [104, 111, 108, 100]), (.str [114, 101, 102, 117, 115, 101])]) := T.g_BACK_WORDS
    have g_FULL_WORDS : GvL ⟨P, w, gx K mg, base, 3⟩ "FULL_WORDS" (.tup [(.str [119, 114, 97, 112]), (.str [98, 111, 114, 114, 111, 119]), (.str [114, 101, 102, 117, 115, 101])]) := T.g_FULL_WORDS
    have g_RESTART_WORDS : GvL ⟨P, w, gx K mg, base, 3⟩ "RESTART_WORDS" (.tup [(.str [102, 111, 114, 103, 101, 116]), (.str [115, 97, 118, 101, 100]), (.str [119, 97, 105, 116])]) := T.g_RESTART_WORDS
    have g_MAX_MAKERS : GvL ⟨P, w, gx K mg, base, 3⟩ "MAX_MAKERS" (.int 2) := T.g_MAX_MAKERS
    have g_MAX_MARK : GvL ⟨P, w, gx K mg, base, 3⟩ "MAX_MARK" (.int 3) := T.g_MAX_MARK
    have g_FRESH : GvL ⟨P, w, gx K mg, base, 3⟩ "FRESH" (.tup [(.int 0), (.int (-1)), (.int 0), (.int (-1))]) := T.g_FRESH
    have g_NONE : GvL ⟨P, w, gx K mg, base, 3⟩ "NONE" (.int (-1)) := T.g_NONE
    have g_CLOCK : GvL ⟨P, w, gx K mg, base, 3⟩ "CLOCK" (.str [99, 108, 111, 99, 107]) := T.g_CLOCK
    have g_GIVE : GvL ⟨P, w, gx K mg, base, 3⟩ "GIVE" (.str [103, 105, 118, 101]) := T.g_GIVE
    have g_RESTART : GvL ⟨P, w, gx K mg, base, 3⟩ "RESTART" (.str [114, 101, 115, 116, 97, 114, 116]) := T.g_RESTART
    have fl0_0 : FldL ⟨P, w, gx K mg, base, 3⟩ 0 0 := by obtain ⟨p, s1⟩ := T.fl0_0; exact fld_sl (t := ⟨P, w, gx K mg, base, 3⟩) (by decide) T.mc0 rfl T.sc0 s1 rfl
    have fl1_1 : FldL ⟨P, w, gx K mg, base, 3⟩ 1 1 := by obtain ⟨p, s1⟩ := T.fl1_1; exact fld_sl (t := ⟨P, w, gx K mg, base, 3⟩) (by decide) T.mc1 rfl T.sc1 s1 rfl
    have fl1_2 : FldL ⟨P, w, gx K mg, base, 3⟩ 1 2 := by obtain ⟨p, s1⟩ := T.fl1_2; exact fld_sl (t := ⟨P, w, gx K mg, base, 3⟩) (by decide) T.mc1 rfl T.sc1 s1 rfl
    have f_is_number : FnL ⟨P, w, gx K mg, base, 3⟩ "is_number" F_is_number := fn_is_number T (by decide)
    have f_Setup_top : PropL ⟨P, w, gx K mg, base, 3⟩ 1 "top" F_Setup_top := fn_Setup_top T (by decide)
    have f_Setup_limit : PropL ⟨P, w, gx K mg, base, 3⟩ 1 "limit" F_Setup_limit := fn_Setup_limit T (by decide)
    have f_Plan_on_restart : PropL ⟨P, w, gx K mg, base, 3⟩ 0 "on_restart" F_Plan_on_restart := fn_Plan_on_restart T (by decide)
    have f_Setup_plans : PropL ⟨P, w, gx K mg, base, 3⟩ 1 "plans" F_Setup_plans := fn_Setup_plans T (by decide)
    simp only [ir_is_single, needSs, needA, needB, needO, needX, needS, needT, nd_Xp_v, nd_Xo_v, nd_Xp_c, nd_Xp_g, nd_Xp_neg, nd_Xp_bin, nd_Xp_cmp, nd_Xt_cmp, nd_Xt_e, nd_Xt_not, nd_Xt_and, nd_Xt_or, nd_Xp_and, nd_Xp_or, nd_Xp_not, nd_Xp_ite, nd_Xp_chain, nd_Xt_chain, nd_Xp_ix, nd_Xp_sl, nd_Xp_tup, nd_Xp_fz, nd_Xp_hp, nd_Xn_lst, nd_Xp_call, nd_Xp_bi, nd_Xn_bi, nd_Xp_isi, nd_Ib_seq, nd_Ib_r1, nd_Ib_r2, nd_Xn_lc, nd_Sm_asg, nd_Sm_asgO, nd_Sm_asgLc, nd_Sm_asgOLc, nd_Sm_ex, nd_Sm_ret, nd_Sm_retN, nd_Sm_pass, nd_Sm_brk, nd_Sm_cont, nd_Sm_nev, nd_Sm_doc, nd_Sm_ife, nd_Sm_for_, nd_Sm_whl, nd_Sm_par, nd_Sm_app, nd_Xp_app, nd_Sm_setO, nd_Sm_setH, nd_Xp_at, nd_Xp_prop, nd_Xp_mc, nd_Sm_setA, nd_Xp_mkF, nd_Xp_mkH, nd_Xp_mul, nd_Xn_rep, nd_Xp_tupS, nd_Xn_lstS, nd_Ib_en, nd_Ib_zip2, nd_Ib_zip3, nd_Sm_tryN, nd_Xn_add, nd_Xp_lenO, nd_Xp_tzip, nd_Xn_sortK, nd_o, nd_al, nd_ar, biName, bnName, kdName, true_and, and_true]
    try exact trivial
    all_goals (repeat' (with_reducible apply And.intro))
    all_goals first | with_reducible assumption | exact trivial
  exact FnL.pure (gk_gx K mg) (DefAt.fnm (gk_gx K mg) (G := gx K mg) T.d_is_single sc_is_single ok_is_single nd (fun _ _ _ _ _ _ us hl => match us, hl with | [_, _, _], _ => rfl) hj)
theorem fn_check_standing (T : Txt K mg C0 C1) (hj : 9 ≤ j) : FnL ⟨P, w, gx K mg, base, j⟩ "check_standing" F_check_standing := by
  have nd : needSs ir_check_standing ⟨P, w, gx K mg, base, 6⟩ := by
    have b_all : BtL ⟨P, w, gx K mg, base, 6⟩ "all" := T.b_all
    have b_bool : BtL ⟨P, w, gx K mg, base, 6⟩ "bool" := T.b_bool
    have b_enumerate : BtL ⟨P, w, gx K mg, base, 6⟩ "enumerate" := T.b_enumerate
    have b_int : BtL ⟨P, w, gx K mg, base, 6⟩ "int" := T.b_int
    have b_isinstance : BtL ⟨P, w, gx K mg, base, 6⟩ "isinstance" := T.b_isinstance
    have b_len : BtL ⟨P, w, gx K mg, base, 6⟩ "len" := T.b_len
    have b_max : BtL ⟨P, w, gx K mg, base, 6⟩ "max" := T.b_max
    have b_min : BtL ⟨P, w, gx K mg, base, 6⟩ "min" := T.b_min
    have b_range : BtL ⟨P, w, gx K mg, base, 6⟩ "range" := T.b_range
    have b_sorted : BtL ⟨P, w, gx K mg, base, 6⟩ "sorted" := T.b_sorted
    have b_tuple : BtL ⟨P, w, gx K mg, base, 6⟩ "tuple" := T.b_tuple
    have b_zip : BtL ⟨P, w, gx K mg, base, 6⟩ "zip" := T.b_zip
    have g_PARTS : GvL ⟨P, w, gx K mg, base, 6⟩ "PARTS" (.tup [(.str [111, 110, 95, 98, 97, 99, 107]), (.str [111, 110, 95, 102, 117, 108, 108]), (.str [111, 110, 95, 114, 101, 115, 116, 97, 114, 116])]) := T.g_PARTS
    have g_BACK_WORDS : GvL ⟨P, w, gx K mg, base, 6⟩ "BACK_WORDS" (.tup [(.str [116, 114, 117, 115, 116]), (.str [104, 111, 108, 100]), (.str [114, 101, 102, 117, 115, 101])]) := T.g_BACK_WORDS
    have g_FULL_WORDS : GvL ⟨P, w, gx K mg, base, 6⟩ "FULL_WORDS" (.tup [(.str [119, 114, 97, 112]), (.str [98, 111, 114, 114, 111, 119]), (.str [114, 101, 102, 117, 115, 101])]) := T.g_FULL_WORDS
    have g_RESTART_WORDS : GvL ⟨P, w, gx K mg, base, 6⟩ "RESTART_WORDS" (.tup [(.str [102, 111, 114, 103, 101, 116]), (.str [115, 97, 118, 101, 100]), (.str [119, 97, 105, 116])]) := T.g_RESTART_WORDS
    have g_MAX_MAKERS : GvL ⟨P, w, gx K mg, base, 6⟩ "MAX_MAKERS" (.int 2) := T.g_MAX_MAKERS
    have g_MAX_MARK : GvL ⟨P, w, gx K mg, base, 6⟩ "MAX_MARK" (.int 3) := T.g_MAX_MARK
    have g_FRESH : GvL ⟨P, w, gx K mg, base, 6⟩ "FRESH" (.tup [(.int 0), (.int (-1)), (.int 0), (.int (-1))]) := T.g_FRESH
    have g_NONE : GvL ⟨P, w, gx K mg, base, 6⟩ "NONE" (.int (-1)) := T.g_NONE
    have g_CLOCK : GvL ⟨P, w, gx K mg, base, 6⟩ "CLOCK" (.str [99, 108, 111, 99, 107]) := T.g_CLOCK
    have g_GIVE : GvL ⟨P, w, gx K mg, base, 6⟩ "GIVE" (.str [103, 105, 118, 101]) := T.g_GIVE
    have g_RESTART : GvL ⟨P, w, gx K mg, base, 6⟩ "RESTART" (.str [114, 101, 115, 116, 97, 114, 116]) := T.g_RESTART
    have fl0_0 : FldL ⟨P, w, gx K mg, base, 6⟩ 0 0 := by obtain ⟨p, s1⟩ := T.fl0_0; exact fld_sl (t := ⟨P, w, gx K mg, base, 6⟩) (by decide) T.mc0 rfl T.sc0 s1 rfl
    have fl1_1 : FldL ⟨P, w, gx K mg, base, 6⟩ 1 1 := by obtain ⟨p, s1⟩ := T.fl1_1; exact fld_sl (t := ⟨P, w, gx K mg, base, 6⟩) (by decide) T.mc1 rfl T.sc1 s1 rfl
    have fl1_2 : FldL ⟨P, w, gx K mg, base, 6⟩ 1 2 := by obtain ⟨p, s1⟩ := T.fl1_2; exact fld_sl (t := ⟨P, w, gx K mg, base, 6⟩) (by decide) T.mc1 rfl T.sc1 s1 rfl
    have f_Setup___len__ : LenL ⟨P, w, gx K mg, base, 6⟩ 1 F_Setup___len__ := fn_Setup___len__ T (by decide)
    have f_is_single : FnL ⟨P, w, gx K mg, base, 6⟩ "is_single" F_is_single := fn_is_single T (by decide)
    simp only [ir_check_standing, needSs, needA, needB, needO, needX, needS, needT, nd_Xp_v, nd_Xo_v, nd_Xp_c, nd_Xp_g, nd_Xp_neg, nd_Xp_bin, nd_Xp_cmp, nd_Xt_cmp, nd_Xt_e, nd_Xt_not, nd_Xt_and, nd_Xt_or, nd_Xp_and, nd_Xp_or, nd_Xp_not, nd_Xp_ite, nd_Xp_chain, nd_Xt_chain, nd_Xp_ix, nd_Xp_sl, nd_Xp_tup, nd_Xp_fz, nd_Xp_hp, nd_Xn_lst, nd_Xp_call, nd_Xp_bi, nd_Xn_bi, nd_Xp_isi, nd_Ib_seq, nd_Ib_r1, nd_Ib_r2, nd_Xn_lc, nd_Sm_asg, nd_Sm_asgO, nd_Sm_asgLc, nd_Sm_asgOLc, nd_Sm_ex, nd_Sm_ret, nd_Sm_retN, nd_Sm_pass, nd_Sm_brk, nd_Sm_cont, nd_Sm_nev, nd_Sm_doc, nd_Sm_ife, nd_Sm_for_, nd_Sm_whl, nd_Sm_par, nd_Sm_app, nd_Xp_app, nd_Sm_setO, nd_Sm_setH, nd_Xp_at, nd_Xp_prop, nd_Xp_mc, nd_Sm_setA, nd_Xp_mkF, nd_Xp_mkH, nd_Xp_mul, nd_Xn_rep, nd_Xp_tupS, nd_Xn_lstS, nd_Ib_en, nd_Ib_zip2, nd_Ib_zip3, nd_Sm_tryN, nd_Xn_add, nd_Xp_lenO, nd_Xp_tzip, nd_Xn_sortK, nd_o, nd_al, nd_ar, biName, bnName, kdName, true_and, and_true]
    try exact trivial
    all_goals (repeat' (with_reducible apply And.intro))
    all_goals first | with_reducible assumption | exact trivial
  exact FnL.pure (gk_gx K mg) (DefAt.fnm (gk_gx K mg) (G := gx K mg) T.d_check_standing sc_check_standing ok_check_standing nd (fun _ _ _ _ _ _ us hl => match us, hl with | [_, _], _ => rfl) hj)
theorem fn_next_number (T : Txt K mg C0 C1) (hj : 6 ≤ j) : FnL ⟨P, w, gx K mg, base, j⟩ "next_number" F_next_number := by
  have nd : needSs ir_next_number ⟨P, w, gx K mg, base, 3⟩ := by
    have b_all : BtL ⟨P, w, gx K mg, base, 3⟩ "all" := T.b_all
    have b_bool : BtL ⟨P, w, gx K mg, base, 3⟩ "bool" := T.b_bool
    have b_enumerate : BtL ⟨P, w, gx K mg, base, 3⟩ "enumerate" := T.b_enumerate
    have b_int : BtL ⟨P, w, gx K mg, base, 3⟩ "int" := T.b_int
    have b_isinstance : BtL ⟨P, w, gx K mg, base, 3⟩ "isinstance" := T.b_isinstance
    have b_len : BtL ⟨P, w, gx K mg, base, 3⟩ "len" := T.b_len
    have b_max : BtL ⟨P, w, gx K mg, base, 3⟩ "max" := T.b_max
    have b_min : BtL ⟨P, w, gx K mg, base, 3⟩ "min" := T.b_min
    have b_range : BtL ⟨P, w, gx K mg, base, 3⟩ "range" := T.b_range
    have b_sorted : BtL ⟨P, w, gx K mg, base, 3⟩ "sorted" := T.b_sorted
    have b_tuple : BtL ⟨P, w, gx K mg, base, 3⟩ "tuple" := T.b_tuple
    have b_zip : BtL ⟨P, w, gx K mg, base, 3⟩ "zip" := T.b_zip
    have g_PARTS : GvL ⟨P, w, gx K mg, base, 3⟩ "PARTS" (.tup [(.str [111, 110, 95, 98, 97, 99, 107]), (.str [111, 110, 95, 102, 117, 108, 108]), (.str [111, 110, 95, 114, 101, 115, 116, 97, 114, 116])]) := T.g_PARTS
    have g_BACK_WORDS : GvL ⟨P, w, gx K mg, base, 3⟩ "BACK_WORDS" (.tup [(.str [116, 114, 117, 115, 116]), (.str [104, 111, 108, 100]), (.str [114, 101, 102, 117, 115, 101])]) := T.g_BACK_WORDS
    have g_FULL_WORDS : GvL ⟨P, w, gx K mg, base, 3⟩ "FULL_WORDS" (.tup [(.str [119, 114, 97, 112]), (.str [98, 111, 114, 114, 111, 119]), (.str [114, 101, 102, 117, 115, 101])]) := T.g_FULL_WORDS
    have g_RESTART_WORDS : GvL ⟨P, w, gx K mg, base, 3⟩ "RESTART_WORDS" (.tup [(.str [102, 111, 114, 103, 101, 116]), (.str [115, 97, 118, 101, 100]), (.str [119, 97, 105, 116])]) := T.g_RESTART_WORDS
    have g_MAX_MAKERS : GvL ⟨P, w, gx K mg, base, 3⟩ "MAX_MAKERS" (.int 2) := T.g_MAX_MAKERS
    have g_MAX_MARK : GvL ⟨P, w, gx K mg, base, 3⟩ "MAX_MARK" (.int 3) := T.g_MAX_MARK
    have g_FRESH : GvL ⟨P, w, gx K mg, base, 3⟩ "FRESH" (.tup [(.int 0), (.int (-1)), (.int 0), (.int (-1))]) := T.g_FRESH
    have g_NONE : GvL ⟨P, w, gx K mg, base, 3⟩ "NONE" (.int (-1)) := T.g_NONE
    have g_CLOCK : GvL ⟨P, w, gx K mg, base, 3⟩ "CLOCK" (.str [99, 108, 111, 99, 107]) := T.g_CLOCK
    have g_GIVE : GvL ⟨P, w, gx K mg, base, 3⟩ "GIVE" (.str [103, 105, 118, 101]) := T.g_GIVE
    have g_RESTART : GvL ⟨P, w, gx K mg, base, 3⟩ "RESTART" (.str [114, 101, 115, 116, 97, 114, 116]) := T.g_RESTART
    have fl0_0 : FldL ⟨P, w, gx K mg, base, 3⟩ 0 0 := by obtain ⟨p, s1⟩ := T.fl0_0; exact fld_sl (t := ⟨P, w, gx K mg, base, 3⟩) (by decide) T.mc0 rfl T.sc0 s1 rfl
    have fl1_1 : FldL ⟨P, w, gx K mg, base, 3⟩ 1 1 := by obtain ⟨p, s1⟩ := T.fl1_1; exact fld_sl (t := ⟨P, w, gx K mg, base, 3⟩) (by decide) T.mc1 rfl T.sc1 s1 rfl
    have fl1_2 : FldL ⟨P, w, gx K mg, base, 3⟩ 1 2 := by obtain ⟨p, s1⟩ := T.fl1_2; exact fld_sl (t := ⟨P, w, gx K mg, base, 3⟩) (by decide) T.mc1 rfl T.sc1 s1 rfl
    have f_Setup_plans : PropL ⟨P, w, gx K mg, base, 3⟩ 1 "plans" F_Setup_plans := fn_Setup_plans T (by decide)
    have f_Plan_on_restart : PropL ⟨P, w, gx K mg, base, 3⟩ 0 "on_restart" F_Plan_on_restart := fn_Plan_on_restart T (by decide)
    have f_Plan_on_back : PropL ⟨P, w, gx K mg, base, 3⟩ 0 "on_back" F_Plan_on_back := fn_Plan_on_back T (by decide)
    have f_Setup_limit : PropL ⟨P, w, gx K mg, base, 3⟩ 1 "limit" F_Setup_limit := fn_Setup_limit T (by decide)
    have f_Plan_on_full : PropL ⟨P, w, gx K mg, base, 3⟩ 0 "on_full" F_Plan_on_full := fn_Plan_on_full T (by decide)
    have f_Setup_top : PropL ⟨P, w, gx K mg, base, 3⟩ 1 "top" F_Setup_top := fn_Setup_top T (by decide)
    simp only [ir_next_number, needSs, needA, needB, needO, needX, needS, needT, nd_Xp_v, nd_Xo_v, nd_Xp_c, nd_Xp_g, nd_Xp_neg, nd_Xp_bin, nd_Xp_cmp, nd_Xt_cmp, nd_Xt_e, nd_Xt_not, nd_Xt_and, nd_Xt_or, nd_Xp_and, nd_Xp_or, nd_Xp_not, nd_Xp_ite, nd_Xp_chain, nd_Xt_chain, nd_Xp_ix, nd_Xp_sl, nd_Xp_tup, nd_Xp_fz, nd_Xp_hp, nd_Xn_lst, nd_Xp_call, nd_Xp_bi, nd_Xn_bi, nd_Xp_isi, nd_Ib_seq, nd_Ib_r1, nd_Ib_r2, nd_Xn_lc, nd_Sm_asg, nd_Sm_asgO, nd_Sm_asgLc, nd_Sm_asgOLc, nd_Sm_ex, nd_Sm_ret, nd_Sm_retN, nd_Sm_pass, nd_Sm_brk, nd_Sm_cont, nd_Sm_nev, nd_Sm_doc, nd_Sm_ife, nd_Sm_for_, nd_Sm_whl, nd_Sm_par, nd_Sm_app, nd_Xp_app, nd_Sm_setO, nd_Sm_setH, nd_Xp_at, nd_Xp_prop, nd_Xp_mc, nd_Sm_setA, nd_Xp_mkF, nd_Xp_mkH, nd_Xp_mul, nd_Xn_rep, nd_Xp_tupS, nd_Xn_lstS, nd_Ib_en, nd_Ib_zip2, nd_Ib_zip3, nd_Sm_tryN, nd_Xn_add, nd_Xp_lenO, nd_Xp_tzip, nd_Xn_sortK, nd_o, nd_al, nd_ar, biName, bnName, kdName, true_and, and_true]
    try exact trivial
    all_goals (repeat' (with_reducible apply And.intro))
    all_goals first | with_reducible assumption | exact trivial
  exact FnL.pure (gk_gx K mg) (DefAt.fnm (gk_gx K mg) (G := gx K mg) T.d_next_number sc_next_number ok_next_number nd (fun _ _ _ _ _ _ us hl => match us, hl with | [_, _, _], _ => rfl) hj)
theorem fn_giving (T : Txt K mg C0 C1) (hj : 9 ≤ j) : FnL ⟨P, w, gx K mg, base, j⟩ "giving" F_giving := by
  have nd : needSs ir_giving ⟨P, w, gx K mg, base, 6⟩ := by
    have b_all : BtL ⟨P, w, gx K mg, base, 6⟩ "all" := T.b_all
    have b_bool : BtL ⟨P, w, gx K mg, base, 6⟩ "bool" := T.b_bool
    have b_enumerate : BtL ⟨P, w, gx K mg, base, 6⟩ "enumerate" := T.b_enumerate
    have b_int : BtL ⟨P, w, gx K mg, base, 6⟩ "int" := T.b_int
    have b_isinstance : BtL ⟨P, w, gx K mg, base, 6⟩ "isinstance" := T.b_isinstance
    have b_len : BtL ⟨P, w, gx K mg, base, 6⟩ "len" := T.b_len
    have b_max : BtL ⟨P, w, gx K mg, base, 6⟩ "max" := T.b_max
    have b_min : BtL ⟨P, w, gx K mg, base, 6⟩ "min" := T.b_min
    have b_range : BtL ⟨P, w, gx K mg, base, 6⟩ "range" := T.b_range
    have b_sorted : BtL ⟨P, w, gx K mg, base, 6⟩ "sorted" := T.b_sorted
    have b_tuple : BtL ⟨P, w, gx K mg, base, 6⟩ "tuple" := T.b_tuple
    have b_zip : BtL ⟨P, w, gx K mg, base, 6⟩ "zip" := T.b_zip
    have g_PARTS : GvL ⟨P, w, gx K mg, base, 6⟩ "PARTS" (.tup [(.str [111, 110, 95, 98, 97, 99, 107]), (.str [111, 110, 95, 102, 117, 108, 108]), (.str [111, 110, 95, 114, 101, 115, 116, 97, 114, 116])]) := T.g_PARTS
    have g_BACK_WORDS : GvL ⟨P, w, gx K mg, base, 6⟩ "BACK_WORDS" (.tup [(.str [116, 114, 117, 115, 116]), (.str [104, 111, 108, 100]), (.str [114, 101, 102, 117, 115, 101])]) := T.g_BACK_WORDS
    have g_FULL_WORDS : GvL ⟨P, w, gx K mg, base, 6⟩ "FULL_WORDS" (.tup [(.str [119, 114, 97, 112]), (.str [98, 111, 114, 114, 111, 119]), (.str [114, 101, 102, 117, 115, 101])]) := T.g_FULL_WORDS
    have g_RESTART_WORDS : GvL ⟨P, w, gx K mg, base, 6⟩ "RESTART_WORDS" (.tup [(.str [102, 111, 114, 103, 101, 116]), (.str [115, 97, 118, 101, 100]), (.str [119, 97, 105, 116])]) := T.g_RESTART_WORDS
    have g_MAX_MAKERS : GvL ⟨P, w, gx K mg, base, 6⟩ "MAX_MAKERS" (.int 2) := T.g_MAX_MAKERS
    have g_MAX_MARK : GvL ⟨P, w, gx K mg, base, 6⟩ "MAX_MARK" (.int 3) := T.g_MAX_MARK
    have g_FRESH : GvL ⟨P, w, gx K mg, base, 6⟩ "FRESH" (.tup [(.int 0), (.int (-1)), (.int 0), (.int (-1))]) := T.g_FRESH
    have g_NONE : GvL ⟨P, w, gx K mg, base, 6⟩ "NONE" (.int (-1)) := T.g_NONE
    have g_CLOCK : GvL ⟨P, w, gx K mg, base, 6⟩ "CLOCK" (.str [99, 108, 111, 99, 107]) := T.g_CLOCK
    have g_GIVE : GvL ⟨P, w, gx K mg, base, 6⟩ "GIVE" (.str [103, 105, 118, 101]) := T.g_GIVE
    have g_RESTART : GvL ⟨P, w, gx K mg, base, 6⟩ "RESTART" (.str [114, 101, 115, 116, 97, 114, 116]) := T.g_RESTART
    have fl0_0 : FldL ⟨P, w, gx K mg, base, 6⟩ 0 0 := by obtain ⟨p, s1⟩ := T.fl0_0; exact fld_sl (t := ⟨P, w, gx K mg, base, 6⟩) (by decide) T.mc0 rfl T.sc0 s1 rfl
    have fl1_1 : FldL ⟨P, w, gx K mg, base, 6⟩ 1 1 := by obtain ⟨p, s1⟩ := T.fl1_1; exact fld_sl (t := ⟨P, w, gx K mg, base, 6⟩) (by decide) T.mc1 rfl T.sc1 s1 rfl
    have fl1_2 : FldL ⟨P, w, gx K mg, base, 6⟩ 1 2 := by obtain ⟨p, s1⟩ := T.fl1_2; exact fld_sl (t := ⟨P, w, gx K mg, base, 6⟩) (by decide) T.mc1 rfl T.sc1 s1 rfl
    have f_next_number : FnL ⟨P, w, gx K mg, base, 6⟩ "next_number" F_next_number := fn_next_number T (by decide)
    have f_Plan_on_restart : PropL ⟨P, w, gx K mg, base, 6⟩ 0 "on_restart" F_Plan_on_restart := fn_Plan_on_restart T (by decide)
    have f_Setup_plans : PropL ⟨P, w, gx K mg, base, 6⟩ 1 "plans" F_Setup_plans := fn_Setup_plans T (by decide)
    simp only [ir_giving, needSs, needA, needB, needO, needX, needS, needT, nd_Xp_v, nd_Xo_v, nd_Xp_c, nd_Xp_g, nd_Xp_neg, nd_Xp_bin, nd_Xp_cmp, nd_Xt_cmp, nd_Xt_e, nd_Xt_not, nd_Xt_and, nd_Xt_or, nd_Xp_and, nd_Xp_or, nd_Xp_not, nd_Xp_ite, nd_Xp_chain, nd_Xt_chain, nd_Xp_ix, nd_Xp_sl, nd_Xp_tup, nd_Xp_fz, nd_Xp_hp, nd_Xn_lst, nd_Xp_call, nd_Xp_bi, nd_Xn_bi, nd_Xp_isi, nd_Ib_seq, nd_Ib_r1, nd_Ib_r2, nd_Xn_lc, nd_Sm_asg, nd_Sm_asgO, nd_Sm_asgLc, nd_Sm_asgOLc, nd_Sm_ex, nd_Sm_ret, nd_Sm_retN, nd_Sm_pass, nd_Sm_brk, nd_Sm_cont, nd_Sm_nev, nd_Sm_doc, nd_Sm_ife, nd_Sm_for_, nd_Sm_whl, nd_Sm_par, nd_Sm_app, nd_Xp_app, nd_Sm_setO, nd_Sm_setH, nd_Xp_at, nd_Xp_prop, nd_Xp_mc, nd_Sm_setA, nd_Xp_mkF, nd_Xp_mkH, nd_Xp_mul, nd_Xn_rep, nd_Xp_tupS, nd_Xn_lstS, nd_Ib_en, nd_Ib_zip2, nd_Ib_zip3, nd_Sm_tryN, nd_Xn_add, nd_Xp_lenO, nd_Xp_tzip, nd_Xn_sortK, nd_o, nd_al, nd_ar, biName, bnName, kdName, true_and, and_true]
    try exact trivial
    all_goals (repeat' (with_reducible apply And.intro))
    all_goals first | with_reducible assumption | exact trivial
  exact FnL.pure (gk_gx K mg) (DefAt.fnm (gk_gx K mg) (G := gx K mg) T.d_giving sc_giving ok_giving nd (fun _ _ _ _ _ _ us hl => match us, hl with | [_, _, _], _ => rfl) hj)
theorem fn_restarted (T : Txt K mg C0 C1) (hj : 6 ≤ j) : FnL ⟨P, w, gx K mg, base, j⟩ "restarted" F_restarted := by
  have nd : needSs ir_restarted ⟨P, w, gx K mg, base, 3⟩ := by
    have b_all : BtL ⟨P, w, gx K mg, base, 3⟩ "all" := T.b_all
    have b_bool : BtL ⟨P, w, gx K mg, base, 3⟩ "bool" := T.b_bool
    have b_enumerate : BtL ⟨P, w, gx K mg, base, 3⟩ "enumerate" := T.b_enumerate
    have b_int : BtL ⟨P, w, gx K mg, base, 3⟩ "int" := T.b_int
    have b_isinstance : BtL ⟨P, w, gx K mg, base, 3⟩ "isinstance" := T.b_isinstance
    have b_len : BtL ⟨P, w, gx K mg, base, 3⟩ "len" := T.b_len
    have b_max : BtL ⟨P, w, gx K mg, base, 3⟩ "max" := T.b_max
    have b_min : BtL ⟨P, w, gx K mg, base, 3⟩ "min" := T.b_min
    have b_range : BtL ⟨P, w, gx K mg, base, 3⟩ "range" := T.b_range
    have b_sorted : BtL ⟨P, w, gx K mg, base, 3⟩ "sorted" := T.b_sorted
    have b_tuple : BtL ⟨P, w, gx K mg, base, 3⟩ "tuple" := T.b_tuple
    have b_zip : BtL ⟨P, w, gx K mg, base, 3⟩ "zip" := T.b_zip
    have g_PARTS : GvL ⟨P, w, gx K mg, base, 3⟩ "PARTS" (.tup [(.str [111, 110, 95, 98, 97, 99, 107]), (.str [111, 110, 95, 102, 117, 108, 108]), (.str [111, 110, 95, 114, 101, 115, 116, 97, 114, 116])]) := T.g_PARTS
    have g_BACK_WORDS : GvL ⟨P, w, gx K mg, base, 3⟩ "BACK_WORDS" (.tup [(.str [116, 114, 117, 115, 116]), (.str [104, 111, 108, 100]), (.str [114, 101, 102, 117, 115, 101])]) := T.g_BACK_WORDS
    have g_FULL_WORDS : GvL ⟨P, w, gx K mg, base, 3⟩ "FULL_WORDS" (.tup [(.str [119, 114, 97, 112]), (.str [98, 111, 114, 114, 111, 119]), (.str [114, 101, 102, 117, 115, 101])]) := T.g_FULL_WORDS
    have g_RESTART_WORDS : GvL ⟨P, w, gx K mg, base, 3⟩ "RESTART_WORDS" (.tup [(.str [102, 111, 114, 103, 101, 116]), (.str [115, 97, 118, 101, 100]), (.str [119, 97, 105, 116])]) := T.g_RESTART_WORDS
    have g_MAX_MAKERS : GvL ⟨P, w, gx K mg, base, 3⟩ "MAX_MAKERS" (.int 2) := T.g_MAX_MAKERS
    have g_MAX_MARK : GvL ⟨P, w, gx K mg, base, 3⟩ "MAX_MARK" (.int 3) := T.g_MAX_MARK
    have g_FRESH : GvL ⟨P, w, gx K mg, base, 3⟩ "FRESH" (.tup [(.int 0), (.int (-1)), (.int 0), (.int (-1))]) := T.g_FRESH
    have g_NONE : GvL ⟨P, w, gx K mg, base, 3⟩ "NONE" (.int (-1)) := T.g_NONE
    have g_CLOCK : GvL ⟨P, w, gx K mg, base, 3⟩ "CLOCK" (.str [99, 108, 111, 99, 107]) := T.g_CLOCK
    have g_GIVE : GvL ⟨P, w, gx K mg, base, 3⟩ "GIVE" (.str [103, 105, 118, 101]) := T.g_GIVE
    have g_RESTART : GvL ⟨P, w, gx K mg, base, 3⟩ "RESTART" (.str [114, 101, 115, 116, 97, 114, 116]) := T.g_RESTART
    have fl0_0 : FldL ⟨P, w, gx K mg, base, 3⟩ 0 0 := by obtain ⟨p, s1⟩ := T.fl0_0; exact fld_sl (t := ⟨P, w, gx K mg, base, 3⟩) (by decide) T.mc0 rfl T.sc0 s1 rfl
    have fl1_1 : FldL ⟨P, w, gx K mg, base, 3⟩ 1 1 := by obtain ⟨p, s1⟩ := T.fl1_1; exact fld_sl (t := ⟨P, w, gx K mg, base, 3⟩) (by decide) T.mc1 rfl T.sc1 s1 rfl
    have fl1_2 : FldL ⟨P, w, gx K mg, base, 3⟩ 1 2 := by obtain ⟨p, s1⟩ := T.fl1_2; exact fld_sl (t := ⟨P, w, gx K mg, base, 3⟩) (by decide) T.mc1 rfl T.sc1 s1 rfl
    have f_Plan_on_restart : PropL ⟨P, w, gx K mg, base, 3⟩ 0 "on_restart" F_Plan_on_restart := fn_Plan_on_restart T (by decide)
    have f_Setup_plans : PropL ⟨P, w, gx K mg, base, 3⟩ 1 "plans" F_Setup_plans := fn_Setup_plans T (by decide)
    have f_Setup_limit : PropL ⟨P, w, gx K mg, base, 3⟩ 1 "limit" F_Setup_limit := fn_Setup_limit T (by decide)
    simp only [ir_restarted, needSs, needA, needB, needO, needX, needS, needT, nd_Xp_v, nd_Xo_v, nd_Xp_c, nd_Xp_g, nd_Xp_neg, nd_Xp_bin, nd_Xp_cmp, nd_Xt_cmp, nd_Xt_e, nd_Xt_not, nd_Xt_and, nd_Xt_or, nd_Xp_and, nd_Xp_or, nd_Xp_not, nd_Xp_ite, nd_Xp_chain, nd_Xt_chain, nd_Xp_ix, nd_Xp_sl, nd_Xp_tup, nd_Xp_fz, nd_Xp_hp, nd_Xn_lst, nd_Xp_call, nd_Xp_bi, nd_Xn_bi, nd_Xp_isi, nd_Ib_seq, nd_Ib_r1, nd_Ib_r2, nd_Xn_lc, nd_Sm_asg, nd_Sm_asgO, nd_Sm_asgLc, nd_Sm_asgOLc, nd_Sm_ex, nd_Sm_ret, nd_Sm_retN, nd_Sm_pass, nd_Sm_brk, nd_Sm_cont, nd_Sm_nev, nd_Sm_doc, nd_Sm_ife, nd_Sm_for_, nd_Sm_whl, nd_Sm_par, nd_Sm_app, nd_Xp_app, nd_Sm_setO, nd_Sm_setH, nd_Xp_at, nd_Xp_prop, nd_Xp_mc, nd_Sm_setA, nd_Xp_mkF, nd_Xp_mkH, nd_Xp_mul, nd_Xn_rep, nd_Xp_tupS, nd_Xn_lstS, nd_Ib_en, nd_Ib_zip2, nd_Ib_zip3, nd_Sm_tryN, nd_Xn_add, nd_Xp_lenO, nd_Xp_tzip, nd_Xn_sortK, nd_o, nd_al, nd_ar, biName, bnName, kdName, true_and, and_true]
    try exact trivial
    all_goals (repeat' (with_reducible apply And.intro))
    all_goals first | with_reducible assumption | exact trivial
  exact FnL.pure (gk_gx K mg) (DefAt.fnm (gk_gx K mg) (G := gx K mg) T.d_restarted sc_restarted ok_restarted nd (fun _ _ _ _ _ _ us hl => match us, hl with | [_, _, _], _ => rfl) hj)
theorem fn_readings (T : Txt K mg C0 C1) (hj : 6 ≤ j) : FnL ⟨P, w, gx K mg, base, j⟩ "readings" F_readings := by
  have nd : needSs ir_readings ⟨P, w, gx K mg, base, 3⟩ := by
    have b_all : BtL ⟨P, w, gx K mg, base, 3⟩ "all" := T.b_all
    have b_bool : BtL ⟨P, w, gx K mg, base, 3⟩ "bool" := T.b_bool
    have b_enumerate : BtL ⟨P, w, gx K mg, base, 3⟩ "enumerate" := T.b_enumerate
    have b_int : BtL ⟨P, w, gx K mg, base, 3⟩ "int" := T.b_int
    have b_isinstance : BtL ⟨P, w, gx K mg, base, 3⟩ "isinstance" := T.b_isinstance
    have b_len : BtL ⟨P, w, gx K mg, base, 3⟩ "len" := T.b_len
    have b_max : BtL ⟨P, w, gx K mg, base, 3⟩ "max" := T.b_max
    have b_min : BtL ⟨P, w, gx K mg, base, 3⟩ "min" := T.b_min
    have b_range : BtL ⟨P, w, gx K mg, base, 3⟩ "range" := T.b_range
    have b_sorted : BtL ⟨P, w, gx K mg, base, 3⟩ "sorted" := T.b_sorted
    have b_tuple : BtL ⟨P, w, gx K mg, base, 3⟩ "tuple" := T.b_tuple
    have b_zip : BtL ⟨P, w, gx K mg, base, 3⟩ "zip" := T.b_zip
    have g_PARTS : GvL ⟨P, w, gx K mg, base, 3⟩ "PARTS" (.tup [(.str [111, 110, 95, 98, 97, 99, 107]), (.str [111, 110, 95, 102, 117, 108, 108]), (.str [111, 110, 95, 114, 101, 115, 116, 97, 114, 116])]) := T.g_PARTS
    have g_BACK_WORDS : GvL ⟨P, w, gx K mg, base, 3⟩ "BACK_WORDS" (.tup [(.str [116, 114, 117, 115, 116]), (.str [104, 111, 108, 100]), (.str [114, 101, 102, 117, 115, 101])]) := T.g_BACK_WORDS
    have g_FULL_WORDS : GvL ⟨P, w, gx K mg, base, 3⟩ "FULL_WORDS" (.tup [(.str [119, 114, 97, 112]), (.str [98, 111, 114, 114, 111, 119]), (.str [114, 101, 102, 117, 115, 101])]) := T.g_FULL_WORDS
    have g_RESTART_WORDS : GvL ⟨P, w, gx K mg, base, 3⟩ "RESTART_WORDS" (.tup [(.str [102, 111, 114, 103, 101, 116]), (.str [115, 97, 118, 101, 100]), (.str [119, 97, 105, 116])]) := T.g_RESTART_WORDS
    have g_MAX_MAKERS : GvL ⟨P, w, gx K mg, base, 3⟩ "MAX_MAKERS" (.int 2) := T.g_MAX_MAKERS
    have g_MAX_MARK : GvL ⟨P, w, gx K mg, base, 3⟩ "MAX_MARK" (.int 3) := T.g_MAX_MARK
    have g_FRESH : GvL ⟨P, w, gx K mg, base, 3⟩ "FRESH" (.tup [(.int 0), (.int (-1)), (.int 0), (.int (-1))]) := T.g_FRESH
    have g_NONE : GvL ⟨P, w, gx K mg, base, 3⟩ "NONE" (.int (-1)) := T.g_NONE
    have g_CLOCK : GvL ⟨P, w, gx K mg, base, 3⟩ "CLOCK" (.str [99, 108, 111, 99, 107]) := T.g_CLOCK
    have g_GIVE : GvL ⟨P, w, gx K mg, base, 3⟩ "GIVE" (.str [103, 105, 118, 101]) := T.g_GIVE
    have g_RESTART : GvL ⟨P, w, gx K mg, base, 3⟩ "RESTART" (.str [114, 101, 115, 116, 97, 114, 116]) := T.g_RESTART
    have fl0_0 : FldL ⟨P, w, gx K mg, base, 3⟩ 0 0 := by obtain ⟨p, s1⟩ := T.fl0_0; exact fld_sl (t := ⟨P, w, gx K mg, base, 3⟩) (by decide) T.mc0 rfl T.sc0 s1 rfl
    have fl1_1 : FldL ⟨P, w, gx K mg, base, 3⟩ 1 1 := by obtain ⟨p, s1⟩ := T.fl1_1; exact fld_sl (t := ⟨P, w, gx K mg, base, 3⟩) (by decide) T.mc1 rfl T.sc1 s1 rfl
    have fl1_2 : FldL ⟨P, w, gx K mg, base, 3⟩ 1 2 := by obtain ⟨p, s1⟩ := T.fl1_2; exact fld_sl (t := ⟨P, w, gx K mg, base, 3⟩) (by decide) T.mc1 rfl T.sc1 s1 rfl
    have f_Setup_back : PropL ⟨P, w, gx K mg, base, 3⟩ 1 "back" F_Setup_back := fn_Setup_back T (by decide)
    have f_Setup_top : PropL ⟨P, w, gx K mg, base, 3⟩ 1 "top" F_Setup_top := fn_Setup_top T (by decide)
    have f_Setup_ahead : PropL ⟨P, w, gx K mg, base, 3⟩ 1 "ahead" F_Setup_ahead := fn_Setup_ahead T (by decide)
    simp only [ir_readings, needSs, needA, needB, needO, needX, needS, needT, nd_Xp_v, nd_Xo_v, nd_Xp_c, nd_Xp_g, nd_Xp_neg, nd_Xp_bin, nd_Xp_cmp, nd_Xt_cmp, nd_Xt_e, nd_Xt_not, nd_Xt_and, nd_Xt_or, nd_Xp_and, nd_Xp_or, nd_Xp_not, nd_Xp_ite, nd_Xp_chain, nd_Xt_chain, nd_Xp_ix, nd_Xp_sl, nd_Xp_tup, nd_Xp_fz, nd_Xp_hp, nd_Xn_lst, nd_Xp_call, nd_Xp_bi, nd_Xn_bi, nd_Xp_isi, nd_Ib_seq, nd_Ib_r1, nd_Ib_r2, nd_Xn_lc, nd_Sm_asg, nd_Sm_asgO, nd_Sm_asgLc, nd_Sm_asgOLc, nd_Sm_ex, nd_Sm_ret, nd_Sm_retN, nd_Sm_pass, nd_Sm_brk, nd_Sm_cont, nd_Sm_nev, nd_Sm_doc, nd_Sm_ife, nd_Sm_for_, nd_Sm_whl, nd_Sm_par, nd_Sm_app, nd_Xp_app, nd_Sm_setO, nd_Sm_setH, nd_Xp_at, nd_Xp_prop, nd_Xp_mc, nd_Sm_setA, nd_Xp_mkF, nd_Xp_mkH, nd_Xp_mul, nd_Xn_rep, nd_Xp_tupS, nd_Xn_lstS, nd_Ib_en, nd_Ib_zip2, nd_Ib_zip3, nd_Sm_tryN, nd_Xn_add, nd_Xp_lenO, nd_Xp_tzip, nd_Xn_sortK, nd_o, nd_al, nd_ar, biName, bnName, kdName, true_and, and_true]
    try exact trivial
    all_goals (repeat' (with_reducible apply And.intro))
    all_goals first | with_reducible assumption | exact trivial
  exact FnL.pure (gk_gx K mg) (DefAt.fnm (gk_gx K mg) (G := gx K mg) T.d_readings sc_readings ok_readings nd (fun _ _ _ _ _ _ us hl => match us, hl with | [_, _], _ => rfl) hj)
theorem fn_single_moves (T : Txt K mg C0 C1) (hj : 12 ≤ j) : FnL ⟨P, w, gx K mg, base, j⟩ "single_moves" F_single_moves := by
  have nd : needSs ir_single_moves ⟨P, w, gx K mg, base, 9⟩ := by
    have b_all : BtL ⟨P, w, gx K mg, base, 9⟩ "all" := T.b_all
    have b_bool : BtL ⟨P, w, gx K mg, base, 9⟩ "bool" := T.b_bool
    have b_enumerate : BtL ⟨P, w, gx K mg, base, 9⟩ "enumerate" := T.b_enumerate
    have b_int : BtL ⟨P, w, gx K mg, base, 9⟩ "int" := T.b_int
    have b_isinstance : BtL ⟨P, w, gx K mg, base, 9⟩ "isinstance" := T.b_isinstance
    have b_len : BtL ⟨P, w, gx K mg, base, 9⟩ "len" := T.b_len
    have b_max : BtL ⟨P, w, gx K mg, base, 9⟩ "max" := T.b_max
    have b_min : BtL ⟨P, w, gx K mg, base, 9⟩ "min" := T.b_min
    have b_range : BtL ⟨P, w, gx K mg, base, 9⟩ "range" := T.b_range
    have b_sorted : BtL ⟨P, w, gx K mg, base, 9⟩ "sorted" := T.b_sorted
    have b_tuple : BtL ⟨P, w, gx K mg, base, 9⟩ "tuple" := T.b_tuple
    have b_zip : BtL ⟨P, w, gx K mg, base, 9⟩ "zip" := T.b_zip
    have g_PARTS : GvL ⟨P, w, gx K mg, base, 9⟩ "PARTS" (.tup [(.str [111, 110, 95, 98, 97, 99, 107]), (.str [111, 110, 95, 102, 117, 108, 108]), (.str [111, 110, 95, 114, 101, 115, 116, 97, 114, 116])]) := T.g_PARTS
    have g_BACK_WORDS : GvL ⟨P, w, gx K mg, base, 9⟩ "BACK_WORDS" (.tup [(.str [116, 114, 117, 115, 116]), (.str [104, 111, 108, 100]), (.str [114, 101, 102, 117, 115, 101])]) := T.g_BACK_WORDS
    have g_FULL_WORDS : GvL ⟨P, w, gx K mg, base, 9⟩ "FULL_WORDS" (.tup [(.str [119, 114, 97, 112]), (.str [98, 111, 114, 114, 111, 119]), (.str [114, 101, 102, 117, 115, 101])]) := T.g_FULL_WORDS
    have g_RESTART_WORDS : GvL ⟨P, w, gx K mg, base, 9⟩ "RESTART_WORDS" (.tup [(.str [102, 111, 114, 103, 101, 116]), (.str [115, 97, 118, 101, 100]), (.str [119, 97, 105, 116])]) := T.g_RESTART_WORDS
    have g_MAX_MAKERS : GvL ⟨P, w, gx K mg, base, 9⟩ "MAX_MAKERS" (.int 2) := T.g_MAX_MAKERS
    have g_MAX_MARK : GvL ⟨P, w, gx K mg, base, 9⟩ "MAX_MARK" (.int 3) := T.g_MAX_MARK
    have g_FRESH : GvL ⟨P, w, gx K mg, base, 9⟩ "FRESH" (.tup [(.int 0), (.int (-1)), (.int 0), (.int (-1))]) := T.g_FRESH
    have g_NONE : GvL ⟨P, w, gx K mg, base, 9⟩ "NONE" (.int (-1)) := T.g_NONE
    have g_CLOCK : GvL ⟨P, w, gx K mg, base, 9⟩ "CLOCK" (.str [99, 108, 111, 99, 107]) := T.g_CLOCK
    have g_GIVE : GvL ⟨P, w, gx K mg, base, 9⟩ "GIVE" (.str [103, 105, 118, 101]) := T.g_GIVE
    have g_RESTART : GvL ⟨P, w, gx K mg, base, 9⟩ "RESTART" (.str [114, 101, 115, 116, 97, 114, 116]) := T.g_RESTART
    have fl0_0 : FldL ⟨P, w, gx K mg, base, 9⟩ 0 0 := by obtain ⟨p, s1⟩ := T.fl0_0; exact fld_sl (t := ⟨P, w, gx K mg, base, 9⟩) (by decide) T.mc0 rfl T.sc0 s1 rfl
    have fl1_1 : FldL ⟨P, w, gx K mg, base, 9⟩ 1 1 := by obtain ⟨p, s1⟩ := T.fl1_1; exact fld_sl (t := ⟨P, w, gx K mg, base, 9⟩) (by decide) T.mc1 rfl T.sc1 s1 rfl
    have fl1_2 : FldL ⟨P, w, gx K mg, base, 9⟩ 1 2 := by obtain ⟨p, s1⟩ := T.fl1_2; exact fld_sl (t := ⟨P, w, gx K mg, base, 9⟩) (by decide) T.mc1 rfl T.sc1 s1 rfl
    have f_readings : FnL ⟨P, w, gx K mg, base, 9⟩ "readings" F_readings := fn_readings T (by decide)
    have f_giving : FnL ⟨P, w, gx K mg, base, 9⟩ "giving" F_giving := fn_giving T (by decide)
    have f_restarted : FnL ⟨P, w, gx K mg, base, 9⟩ "restarted" F_restarted := fn_restarted T (by decide)
    simp only [ir_single_moves, needSs, needA, needB, needO, needX, needS, needT, nd_Xp_v, nd_Xo_v, nd_Xp_c, nd_Xp_g, nd_Xp_neg, nd_Xp_bin, nd_Xp_cmp, nd_Xt_cmp, nd_Xt_e, nd_Xt_not, nd_Xt_and, nd_Xt_or, nd_Xp_and, nd_Xp_or, nd_Xp_not, nd_Xp_ite, nd_Xp_chain, nd_Xt_chain, nd_Xp_ix, nd_Xp_sl, nd_Xp_tup, nd_Xp_fz, nd_Xp_hp, nd_Xn_lst, nd_Xp_call, nd_Xp_bi, nd_Xn_bi, nd_Xp_isi, nd_Ib_seq, nd_Ib_r1, nd_Ib_r2, nd_Xn_lc, nd_Sm_asg, nd_Sm_asgO, nd_Sm_asgLc, nd_Sm_asgOLc, nd_Sm_ex, nd_Sm_ret, nd_Sm_retN, nd_Sm_pass, nd_Sm_brk, nd_Sm_cont, nd_Sm_nev, nd_Sm_doc, nd_Sm_ife, nd_Sm_for_, nd_Sm_whl, nd_Sm_par, nd_Sm_app, nd_Xp_app, nd_Sm_setO, nd_Sm_setH, nd_Xp_at, nd_Xp_prop, nd_Xp_mc, nd_Sm_setA, nd_Xp_mkF, nd_Xp_mkH, nd_Xp_mul, nd_Xn_rep, nd_Xp_tupS, nd_Xn_lstS, nd_Ib_en, nd_Ib_zip2, nd_Ib_zip3, nd_Sm_tryN, nd_Xn_add, nd_Xp_lenO, nd_Xp_tzip, nd_Xn_sortK, nd_o, nd_al, nd_ar, biName, bnName, kdName, true_and, and_true]
    try exact trivial
    all_goals (repeat' (with_reducible apply And.intro))
    all_goals first | with_reducible assumption | exact trivial
  exact FnL.pure (gk_gx K mg) (DefAt.fnm (gk_gx K mg) (G := gx K mg) T.d_single_moves sc_single_moves ok_single_moves nd (fun _ _ _ _ _ _ us hl => match us, hl with | [_, _, _], _ => rfl) hj)
theorem fn_first_of (T : Txt K mg C0 C1) (hj : 3 ≤ j) : FnL ⟨P, w, gx K mg, base, j⟩ "first_of" F_first_of := by
  have nd : needSs ir_first_of ⟨P, w, gx K mg, base, 0⟩ := by
    have b_all : BtL ⟨P, w, gx K mg, base, 0⟩ "all" := T.b_all
    have b_bool : BtL ⟨P, w, gx K mg, base, 0⟩ "bool" := T.b_bool
    have b_enumerate : BtL ⟨P, w, gx K mg, base, 0⟩ "enumerate" := T.b_enumerate
    have b_int : BtL ⟨P, w, gx K mg, base, 0⟩ "int" := T.b_int
    have b_isinstance : BtL ⟨P, w, gx K mg, base, 0⟩ "isinstance" := T.b_isinstance
    have b_len : BtL ⟨P, w, gx K mg, base, 0⟩ "len" := T.b_len
    have b_max : BtL ⟨P, w, gx K mg, base, 0⟩ "max" := T.b_max
    have b_min : BtL ⟨P, w, gx K mg, base, 0⟩ "min" := T.b_min
    have b_range : BtL ⟨P, w, gx K mg, base, 0⟩ "range" := T.b_range
    have b_sorted : BtL ⟨P, w, gx K mg, base, 0⟩ "sorted" := T.b_sorted
    have b_tuple : BtL ⟨P, w, gx K mg, base, 0⟩ "tuple" := T.b_tuple
    have b_zip : BtL ⟨P, w, gx K mg, base, 0⟩ "zip" := T.b_zip
    have g_PARTS : GvL ⟨P, w, gx K mg, base, 0⟩ "PARTS" (.tup [(.str [111, 110, 95, 98, 97, 99, 107]), (.str [111, 110, 95, 102, 117, 108, 108]), (.str [111, 110, 95, 114, 101, 115, 116, 97, 114, 116])]) := T.g_PARTS
    have g_BACK_WORDS : GvL ⟨P, w, gx K mg, base, 0⟩ "BACK_WORDS" (.tup [(.str [116, 114, 117, 115, 116]), (.str [104, 111, 108, 100]), (.str [114, 101, 102, 117, 115, 101])]) := T.g_BACK_WORDS
    have g_FULL_WORDS : GvL ⟨P, w, gx K mg, base, 0⟩ "FULL_WORDS" (.tup [(.str [119, 114, 97, 112]), (.str [98, 111, 114, 114, 111, 119]), (.str [114, 101, 102, 117, 115, 101])]) := T.g_FULL_WORDS
    have g_RESTART_WORDS : GvL ⟨P, w, gx K mg, base, 0⟩ "RESTART_WORDS" (.tup [(.str [102, 111, 114, 103, 101, 116]), (.str [115, 97, 118, 101, 100]), (.str [119, 97, 105, 116])]) := T.g_RESTART_WORDS
    have g_MAX_MAKERS : GvL ⟨P, w, gx K mg, base, 0⟩ "MAX_MAKERS" (.int 2) := T.g_MAX_MAKERS
    have g_MAX_MARK : GvL ⟨P, w, gx K mg, base, 0⟩ "MAX_MARK" (.int 3) := T.g_MAX_MARK
    have g_FRESH : GvL ⟨P, w, gx K mg, base, 0⟩ "FRESH" (.tup [(.int 0), (.int (-1)), (.int 0), (.int (-1))]) := T.g_FRESH
    have g_NONE : GvL ⟨P, w, gx K mg, base, 0⟩ "NONE" (.int (-1)) := T.g_NONE
    have g_CLOCK : GvL ⟨P, w, gx K mg, base, 0⟩ "CLOCK" (.str [99, 108, 111, 99, 107]) := T.g_CLOCK
    have g_GIVE : GvL ⟨P, w, gx K mg, base, 0⟩ "GIVE" (.str [103, 105, 118, 101]) := T.g_GIVE
    have g_RESTART : GvL ⟨P, w, gx K mg, base, 0⟩ "RESTART" (.str [114, 101, 115, 116, 97, 114, 116]) := T.g_RESTART
    have fl0_0 : FldL ⟨P, w, gx K mg, base, 0⟩ 0 0 := by obtain ⟨p, s1⟩ := T.fl0_0; exact fld_sl (t := ⟨P, w, gx K mg, base, 0⟩) (by decide) T.mc0 rfl T.sc0 s1 rfl
    have fl1_1 : FldL ⟨P, w, gx K mg, base, 0⟩ 1 1 := by obtain ⟨p, s1⟩ := T.fl1_1; exact fld_sl (t := ⟨P, w, gx K mg, base, 0⟩) (by decide) T.mc1 rfl T.sc1 s1 rfl
    have fl1_2 : FldL ⟨P, w, gx K mg, base, 0⟩ 1 2 := by obtain ⟨p, s1⟩ := T.fl1_2; exact fld_sl (t := ⟨P, w, gx K mg, base, 0⟩) (by decide) T.mc1 rfl T.sc1 s1 rfl
    simp only [ir_first_of, needSs, needA, needB, needO, needX, needS, needT, nd_Xp_v, nd_Xo_v, nd_Xp_c, nd_Xp_g, nd_Xp_neg, nd_Xp_bin, nd_Xp_cmp, nd_Xt_cmp, nd_Xt_e, nd_Xt_not, nd_Xt_and, nd_Xt_or, nd_Xp_and, nd_Xp_or, nd_Xp_not, nd_Xp_ite, nd_Xp_chain, nd_Xt_chain, nd_Xp_ix, nd_Xp_sl, nd_Xp_tup, nd_Xp_fz, nd_Xp_hp, nd_Xn_lst, nd_Xp_call, nd_Xp_bi, nd_Xn_bi, nd_Xp_isi, nd_Ib_seq, nd_Ib_r1, nd_Ib_r2, nd_Xn_lc, nd_Sm_asg, nd_Sm_asgO, nd_Sm_asgLc, nd_Sm_asgOLc, nd_Sm_ex, nd_Sm_ret, nd_Sm_retN, nd_Sm_pass, nd_Sm_brk, nd_Sm_cont, nd_Sm_nev, nd_Sm_doc, nd_Sm_ife, nd_Sm_for_, nd_Sm_whl, nd_Sm_par, nd_Sm_app, nd_Xp_app, nd_Sm_setO, nd_Sm_setH, nd_Xp_at, nd_Xp_prop, nd_Xp_mc, nd_Sm_setA, nd_Xp_mkF, nd_Xp_mkH, nd_Xp_mul, nd_Xn_rep, nd_Xp_tupS, nd_Xn_lstS, nd_Ib_en, nd_Ib_zip2, nd_Ib_zip3, nd_Sm_tryN, nd_Xn_add, nd_Xp_lenO, nd_Xp_tzip, nd_Xn_sortK, nd_o, nd_al, nd_ar, biName, bnName, kdName, true_and, and_true]
    try exact trivial
    all_goals (repeat' (with_reducible apply And.intro))
    all_goals first | with_reducible assumption | exact trivial
  exact FnL.pure (gk_gx K mg) (DefAt.fnm (gk_gx K mg) (G := gx K mg) T.d_first_of sc_first_of ok_first_of nd (fun _ _ _ _ _ _ us hl => match us, hl with | [_], _ => rfl) hj)
theorem fn_all_moves (T : Txt K mg C0 C1) (hj : 15 ≤ j) : FnL ⟨P, w, gx K mg, base, j⟩ "all_moves" F_all_moves := by
  have nd : needSs ir_all_moves ⟨P, w, gx K mg, base, 12⟩ := by
    have b_all : BtL ⟨P, w, gx K mg, base, 12⟩ "all" := T.b_all
    have b_bool : BtL ⟨P, w, gx K mg, base, 12⟩ "bool" := T.b_bool
    have b_enumerate : BtL ⟨P, w, gx K mg, base, 12⟩ "enumerate" := T.b_enumerate
    have b_int : BtL ⟨P, w, gx K mg, base, 12⟩ "int" := T.b_int
    have b_isinstance : BtL ⟨P, w, gx K mg, base, 12⟩ "isinstance" := T.b_isinstance
    have b_len : BtL ⟨P, w, gx K mg, base, 12⟩ "len" := T.b_len
    have b_max : BtL ⟨P, w, gx K mg, base, 12⟩ "max" := T.b_max
    have b_min : BtL ⟨P, w, gx K mg, base, 12⟩ "min" := T.b_min
    have b_range : BtL ⟨P, w, gx K mg, base, 12⟩ "range" := T.b_range
    have b_sorted : BtL ⟨P, w, gx K mg, base, 12⟩ "sorted" := T.b_sorted
    have b_tuple : BtL ⟨P, w, gx K mg, base, 12⟩ "tuple" := T.b_tuple
    have b_zip : BtL ⟨P, w, gx K mg, base, 12⟩ "zip" := T.b_zip
    have g_PARTS : GvL ⟨P, w, gx K mg, base, 12⟩ "PARTS" (.tup [(.str [111, 110, 95, 98, 97, 99, 107]), (.str [111, 110, 95, 102, 117, 108, 108]), (.str [111, 110, 95, 114, 101, 115, 116, 97, 114, 116])]) := T.g_PARTS
    have g_BACK_WORDS : GvL ⟨P, w, gx K mg, base, 12⟩ "BACK_WORDS" (.tup [(.str [116, 114, 117, 115, 116]), (.str [104, 111, 108, 100]), (.str [114, 101, 102, 117, 115, 101])]) := T.g_BACK_WORDS
    have g_FULL_WORDS : GvL ⟨P, w, gx K mg, base, 12⟩ "FULL_WORDS" (.tup [(.str [119, 114, 97, 112]), (.str [98, 111, 114, 114, 111, 119]), (.str [114, 101, 102, 117, 115, 101])]) := T.g_FULL_WORDS
    have g_RESTART_WORDS : GvL ⟨P, w, gx K mg, base, 12⟩ "RESTART_WORDS" (.tup [(.str [102, 111, 114, 103, 101, 116]), (.str [115, 97, 118, 101, 100]), (.str [119, 97, 105, 116])]) := T.g_RESTART_WORDS
    have g_MAX_MAKERS : GvL ⟨P, w, gx K mg, base, 12⟩ "MAX_MAKERS" (.int 2) := T.g_MAX_MAKERS
    have g_MAX_MARK : GvL ⟨P, w, gx K mg, base, 12⟩ "MAX_MARK" (.int 3) := T.g_MAX_MARK
    have g_FRESH : GvL ⟨P, w, gx K mg, base, 12⟩ "FRESH" (.tup [(.int 0), (.int (-1)), (.int 0), (.int (-1))]) := T.g_FRESH
    have g_NONE : GvL ⟨P, w, gx K mg, base, 12⟩ "NONE" (.int (-1)) := T.g_NONE
    have g_CLOCK : GvL ⟨P, w, gx K mg, base, 12⟩ "CLOCK" (.str [99, 108, 111, 99, 107]) := T.g_CLOCK
    have g_GIVE : GvL ⟨P, w, gx K mg, base, 12⟩ "GIVE" (.str [103, 105, 118, 101]) := T.g_GIVE
    have g_RESTART : GvL ⟨P, w, gx K mg, base, 12⟩ "RESTART" (.str [114, 101, 115, 116, 97, 114, 116]) := T.g_RESTART
    have fl0_0 : FldL ⟨P, w, gx K mg, base, 12⟩ 0 0 := by obtain ⟨p, s1⟩ := T.fl0_0; exact fld_sl (t := ⟨P, w, gx K mg, base, 12⟩) (by decide) T.mc0 rfl T.sc0 s1 rfl
    have fl1_1 : FldL ⟨P, w, gx K mg, base, 12⟩ 1 1 := by obtain ⟨p, s1⟩ := T.fl1_1; exact fld_sl (t := ⟨P, w, gx K mg, base, 12⟩) (by decide) T.mc1 rfl T.sc1 s1 rfl
    have fl1_2 : FldL ⟨P, w, gx K mg, base, 12⟩ 1 2 := by obtain ⟨p, s1⟩ := T.fl1_2; exact fld_sl (t := ⟨P, w, gx K mg, base, 12⟩) (by decide) T.mc1 rfl T.sc1 s1 rfl
    have f_single_moves : FnL ⟨P, w, gx K mg, base, 12⟩ "single_moves" F_single_moves := fn_single_moves T (by decide)
    have f_Setup_marks : PropL ⟨P, w, gx K mg, base, 12⟩ 1 "marks" F_Setup_marks := fn_Setup_marks T (by decide)
    have f_first_of : FnL ⟨P, w, gx K mg, base, 12⟩ "first_of" F_first_of := fn_first_of T (by decide)
    have f_first_of' : FnL ⟨P, w, gx K mg, base, 12⟩ "first_of" (pureOf (fnF 1 1 ir_first_of)) := f_first_of
    simp only [ir_all_moves, needSs, needA, needB, needO, needX, needS, needT, nd_Xp_v, nd_Xo_v, nd_Xp_c, nd_Xp_g, nd_Xp_neg, nd_Xp_bin, nd_Xp_cmp, nd_Xt_cmp, nd_Xt_e, nd_Xt_not, nd_Xt_and, nd_Xt_or, nd_Xp_and, nd_Xp_or, nd_Xp_not, nd_Xp_ite, nd_Xp_chain, nd_Xt_chain, nd_Xp_ix, nd_Xp_sl, nd_Xp_tup, nd_Xp_fz, nd_Xp_hp, nd_Xn_lst, nd_Xp_call, nd_Xp_bi, nd_Xn_bi, nd_Xp_isi, nd_Ib_seq, nd_Ib_r1, nd_Ib_r2, nd_Xn_lc, nd_Sm_asg, nd_Sm_asgO, nd_Sm_asgLc, nd_Sm_asgOLc, nd_Sm_ex, nd_Sm_ret, nd_Sm_retN, nd_Sm_pass, nd_Sm_brk, nd_Sm_cont, nd_Sm_nev, nd_Sm_doc, nd_Sm_ife, nd_Sm_for_, nd_Sm_whl, nd_Sm_par, nd_Sm_app, nd_Xp_app, nd_Sm_setO, nd_Sm_setH, nd_Xp_at, nd_Xp_prop, nd_Xp_mc, nd_Sm_setA, nd_Xp_mkF, nd_Xp_mkH, nd_Xp_mul, nd_Xn_rep, nd_Xp_tupS, nd_Xn_lstS, nd_Ib_en, nd_Ib_zip2, nd_Ib_zip3, nd_Sm_tryN, nd_Xn_add, nd_Xp_lenO, nd_Xp_tzip, nd_Xn_sortK, nd_o, nd_al, nd_ar, biName, bnName, kdName, true_and, and_true]
    try exact trivial
    all_goals (repeat' (with_reducible apply And.intro))
    all_goals first | with_reducible assumption | exact trivial
  exact FnL.pure (gk_gx K mg) (DefAt.fnm (gk_gx K mg) (G := gx K mg) T.d_all_moves sc_all_moves ok_all_moves nd (fun _ _ _ _ _ _ us hl => match us, hl with | [_, _], _ => rfl) hj)
theorem fn_is_word (T : Txt K mg C0 C1) (hj : 3 ≤ j) : FnL ⟨P, w, gx K mg, base, j⟩ "is_word" F_is_word := by
  have nd : needSs ir_is_word ⟨P, w, gx K mg, base, 0⟩ := by
    have b_all : BtL ⟨P, w, gx K mg, base, 0⟩ "all" := T.b_all
    have b_bool : BtL ⟨P, w, gx K mg, base, 0⟩ "bool" := T.b_bool
    have b_enumerate : BtL ⟨P, w, gx K mg, base, 0⟩ "enumerate" := T.b_enumerate
    have b_int : BtL ⟨P, w, gx K mg, base, 0⟩ "int" := T.b_int
    have b_isinstance : BtL ⟨P, w, gx K mg, base, 0⟩ "isinstance" := T.b_isinstance
    have b_len : BtL ⟨P, w, gx K mg, base, 0⟩ "len" := T.b_len
    have b_max : BtL ⟨P, w, gx K mg, base, 0⟩ "max" := T.b_max
    have b_min : BtL ⟨P, w, gx K mg, base, 0⟩ "min" := T.b_min
    have b_range : BtL ⟨P, w, gx K mg, base, 0⟩ "range" := T.b_range
    have b_sorted : BtL ⟨P, w, gx K mg, base, 0⟩ "sorted" := T.b_sorted
    have b_tuple : BtL ⟨P, w, gx K mg, base, 0⟩ "tuple" := T.b_tuple
    have b_zip : BtL ⟨P, w, gx K mg, base, 0⟩ "zip" := T.b_zip
    have g_PARTS : GvL ⟨P, w, gx K mg, base, 0⟩ "PARTS" (.tup [(.str [111, 110, 95, 98, 97, 99, 107]), (.str [111, 110, 95, 102, 117, 108, 108]), (.str [111, 110, 95, 114, 101, 115, 116, 97, 114, 116])]) := T.g_PARTS
    have g_BACK_WORDS : GvL ⟨P, w, gx K mg, base, 0⟩ "BACK_WORDS" (.tup [(.str [116, 114, 117, 115, 116]), (.str [104, 111, 108, 100]), (.str [114, 101, 102, 117, 115, 101])]) := T.g_BACK_WORDS
    have g_FULL_WORDS : GvL ⟨P, w, gx K mg, base, 0⟩ "FULL_WORDS" (.tup [(.str [119, 114, 97, 112]), (.str [98, 111, 114, 114, 111, 119]), (.str [114, 101, 102, 117, 115, 101])]) := T.g_FULL_WORDS
    have g_RESTART_WORDS : GvL ⟨P, w, gx K mg, base, 0⟩ "RESTART_WORDS" (.tup [(.str [102, 111, 114, 103, 101, 116]), (.str [115, 97, 118, 101, 100]), (.str [119, 97, 105, 116])]) := T.g_RESTART_WORDS
    have g_MAX_MAKERS : GvL ⟨P, w, gx K mg, base, 0⟩ "MAX_MAKERS" (.int 2) := T.g_MAX_MAKERS
    have g_MAX_MARK : GvL ⟨P, w, gx K mg, base, 0⟩ "MAX_MARK" (.int 3) := T.g_MAX_MARK
    have g_FRESH : GvL ⟨P, w, gx K mg, base, 0⟩ "FRESH" (.tup [(.int 0), (.int (-1)), (.int 0), (.int (-1))]) := T.g_FRESH
    have g_NONE : GvL ⟨P, w, gx K mg, base, 0⟩ "NONE" (.int (-1)) := T.g_NONE
    have g_CLOCK : GvL ⟨P, w, gx K mg, base, 0⟩ "CLOCK" (.str [99, 108, 111, 99, 107]) := T.g_CLOCK
    have g_GIVE : GvL ⟨P, w, gx K mg, base, 0⟩ "GIVE" (.str [103, 105, 118, 101]) := T.g_GIVE
    have g_RESTART : GvL ⟨P, w, gx K mg, base, 0⟩ "RESTART" (.str [114, 101, 115, 116, 97, 114, 116]) := T.g_RESTART
    have fl0_0 : FldL ⟨P, w, gx K mg, base, 0⟩ 0 0 := by obtain ⟨p, s1⟩ := T.fl0_0; exact fld_sl (t := ⟨P, w, gx K mg, base, 0⟩) (by decide) T.mc0 rfl T.sc0 s1 rfl
    have fl1_1 : FldL ⟨P, w, gx K mg, base, 0⟩ 1 1 := by obtain ⟨p, s1⟩ := T.fl1_1; exact fld_sl (t := ⟨P, w, gx K mg, base, 0⟩) (by decide) T.mc1 rfl T.sc1 s1 rfl
    have fl1_2 : FldL ⟨P, w, gx K mg, base, 0⟩ 1 2 := by obtain ⟨p, s1⟩ := T.fl1_2; exact fld_sl (t := ⟨P, w, gx K mg, base, 0⟩) (by decide) T.mc1 rfl T.sc1 s1 rfl
    simp only [ir_is_word, needSs, needA, needB, needO, needX, needS, needT, nd_Xp_v, nd_Xo_v, nd_Xp_c, nd_Xp_g, nd_Xp_neg, nd_Xp_bin, nd_Xp_cmp, nd_Xt_cmp, nd_Xt_e, nd_Xt_not, nd_Xt_and, nd_Xt_or, nd_Xp_and, nd_Xp_or, nd_Xp_not, nd_Xp_ite, nd_Xp_chain, nd_Xt_chain, nd_Xp_ix, nd_Xp_sl, nd_Xp_tup, nd_Xp_fz, nd_Xp_hp, nd_Xn_lst, nd_Xp_call, nd_Xp_bi, nd_Xn_bi, nd_Xp_isi, nd_Ib_seq, nd_Ib_r1, nd_Ib_r2, nd_Xn_lc, nd_Sm_asg, nd_Sm_asgO, nd_Sm_asgLc, nd_Sm_asgOLc, nd_Sm_ex, nd_Sm_ret, nd_Sm_retN, nd_Sm_pass, nd_Sm_brk, nd_Sm_cont, nd_Sm_nev, nd_Sm_doc, nd_Sm_ife, nd_Sm_for_, nd_Sm_whl, nd_Sm_par, nd_Sm_app, nd_Xp_app, nd_Sm_setO, nd_Sm_setH, nd_Xp_at, nd_Xp_prop, nd_Xp_mc, nd_Sm_setA, nd_Xp_mkF, nd_Xp_mkH, nd_Xp_mul, nd_Xn_rep, nd_Xp_tupS, nd_Xn_lstS, nd_Ib_en, nd_Ib_zip2, nd_Ib_zip3, nd_Sm_tryN, nd_Xn_add, nd_Xp_lenO, nd_Xp_tzip, nd_Xn_sortK, nd_o, nd_al, nd_ar, biName, bnName, kdName, true_and, and_true]
    try exact trivial
    all_goals (repeat' (with_reducible apply And.intro))
    all_goals first | with_reducible assumption | exact trivial
  exact FnL.pure (gk_gx K mg) (DefAt.fnm (gk_gx K mg) (G := gx K mg) T.d_is_word sc_is_word ok_is_word nd (fun _ _ _ _ _ _ us hl => match us, hl with | [_], _ => rfl) hj)
theorem fn_move (T : Txt K mg C0 C1) (hj : 18 ≤ j) : FnL ⟨P, w, gx K mg, base, j⟩ "move" F_move := by
  have nd : needSs ir_move ⟨P, w, gx K mg, base, 15⟩ := by
    have b_all : BtL ⟨P, w, gx K mg, base, 15⟩ "all" := T.b_all
    have b_bool : BtL ⟨P, w, gx K mg, base, 15⟩ "bool" := T.b_bool
    have b_enumerate : BtL ⟨P, w, gx K mg, base, 15⟩ "enumerate" := T.b_enumerate
    have b_int : BtL ⟨P, w, gx K mg, base, 15⟩ "int" := T.b_int
    have b_isinstance : BtL ⟨P, w, gx K mg, base, 15⟩ "isinstance" := T.b_isinstance
    have b_len : BtL ⟨P, w, gx K mg, base, 15⟩ "len" := T.b_len
    have b_max : BtL ⟨P, w, gx K mg, base, 15⟩ "max" := T.b_max
    have b_min : BtL ⟨P, w, gx K mg, base, 15⟩ "min" := T.b_min
    have b_range : BtL ⟨P, w, gx K mg, base, 15⟩ "range" := T.b_range
    have b_sorted : BtL ⟨P, w, gx K mg, base, 15⟩ "sorted" := T.b_sorted
    have b_tuple : BtL ⟨P, w, gx K mg, base, 15⟩ "tuple" := T.b_tuple
    have b_zip : BtL ⟨P, w, gx K mg, base, 15⟩ "zip" := T.b_zip
    have g_PARTS : GvL ⟨P, w, gx K mg, base, 15⟩ "PARTS" (.tup [(.str [111, 110, 95, 98, 97, 99, 107]), (.str [111, 110, 95, 102, 117, 108, 108]), (.str [111, 110, 95, 114, 101, 115, 116, 97, 114, 116])]) := T.g_PARTS
    have g_BACK_WORDS : GvL ⟨P, w, gx K mg, base, 15⟩ "BACK_WORDS" (.tup [(.str [116, 114, 117, 115, 116]), (.str [104, 111, 108, 100]), (.str [114, 101, 102, 117, 115, 101])]) := T.g_BACK_WORDS
    have g_FULL_WORDS : GvL ⟨P, w, gx K mg, base, 15⟩ "FULL_WORDS" (.tup [(.str [119, 114, 97, 112]), (.str [98, 111, 114, 114, 111, 119]), (.str [114, 101, 102, 117, 115, 101])]) := T.g_FULL_WORDS
    have g_RESTART_WORDS : GvL ⟨P, w, gx K mg, base, 15⟩ "RESTART_WORDS" (.tup [(.str [102, 111, 114, 103, 101, 116]), (.str [115, 97, 118, 101, 100]), (.str [119, 97, 105, 116])]) := T.g_RESTART_WORDS
    have g_MAX_MAKERS : GvL ⟨P, w, gx K mg, base, 15⟩ "MAX_MAKERS" (.int 2) := T.g_MAX_MAKERS
    have g_MAX_MARK : GvL ⟨P, w, gx K mg, base, 15⟩ "MAX_MARK" (.int 3) := T.g_MAX_MARK
    have g_FRESH : GvL ⟨P, w, gx K mg, base, 15⟩ "FRESH" (.tup [(.int 0), (.int (-1)), (.int 0), (.int (-1))]) := T.g_FRESH
    have g_NONE : GvL ⟨P, w, gx K mg, base, 15⟩ "NONE" (.int (-1)) := T.g_NONE
    have g_CLOCK : GvL ⟨P, w, gx K mg, base, 15⟩ "CLOCK" (.str [99, 108, 111, 99, 107]) := T.g_CLOCK
    have g_GIVE : GvL ⟨P, w, gx K mg, base, 15⟩ "GIVE" (.str [103, 105, 118, 101]) := T.g_GIVE
    have g_RESTART : GvL ⟨P, w, gx K mg, base, 15⟩ "RESTART" (.str [114, 101, 115, 116, 97, 114, 116]) := T.g_RESTART
    have fl0_0 : FldL ⟨P, w, gx K mg, base, 15⟩ 0 0 := by obtain ⟨p, s1⟩ := T.fl0_0; exact fld_sl (t := ⟨P, w, gx K mg, base, 15⟩) (by decide) T.mc0 rfl T.sc0 s1 rfl
    have fl1_1 : FldL ⟨P, w, gx K mg, base, 15⟩ 1 1 := by obtain ⟨p, s1⟩ := T.fl1_1; exact fld_sl (t := ⟨P, w, gx K mg, base, 15⟩) (by decide) T.mc1 rfl T.sc1 s1 rfl
    have fl1_2 : FldL ⟨P, w, gx K mg, base, 15⟩ 1 2 := by obtain ⟨p, s1⟩ := T.fl1_2; exact fld_sl (t := ⟨P, w, gx K mg, base, 15⟩) (by decide) T.mc1 rfl T.sc1 s1 rfl
    have f_is_word : FnL ⟨P, w, gx K mg, base, 15⟩ "is_word" F_is_word := fn_is_word T (by decide)
    have f_is_number : FnL ⟨P, w, gx K mg, base, 15⟩ "is_number" F_is_number := fn_is_number T (by decide)
    have f_Setup___len__ : LenL ⟨P, w, gx K mg, base, 15⟩ 1 F_Setup___len__ := fn_Setup___len__ T (by decide)
    have f_Setup_top : PropL ⟨P, w, gx K mg, base, 15⟩ 1 "top" F_Setup_top := fn_Setup_top T (by decide)
    have f_all_moves : FnL ⟨P, w, gx K mg, base, 15⟩ "all_moves" F_all_moves := fn_all_moves T (by decide)
    simp only [ir_move, needSs, needA, needB, needO, needX, needS, needT, nd_Xp_v, nd_Xo_v, nd_Xp_c, nd_Xp_g, nd_Xp_neg, nd_Xp_bin, nd_Xp_cmp, nd_Xt_cmp, nd_Xt_e, nd_Xt_not, nd_Xt_and, nd_Xt_or, nd_Xp_and, nd_Xp_or, nd_Xp_not, nd_Xp_ite, nd_Xp_chain, nd_Xt_chain, nd_Xp_ix, nd_Xp_sl, nd_Xp_tup, nd_Xp_fz, nd_Xp_hp, nd_Xn_lst, nd_Xp_call, nd_Xp_bi, nd_Xn_bi, nd_Xp_isi, nd_Ib_seq, nd_Ib_r1, nd_Ib_r2, nd_Xn_lc, nd_Sm_asg, nd_Sm_asgO, nd_Sm_asgLc, nd_Sm_asgOLc, nd_Sm_ex, nd_Sm_ret, nd_Sm_retN, nd_Sm_pass, nd_Sm_brk, nd_Sm_cont, nd_Sm_nev, nd_Sm_doc, nd_Sm_ife, nd_Sm_for_, nd_Sm_whl, nd_Sm_par, nd_Sm_app, nd_Xp_app, nd_Sm_setO, nd_Sm_setH, nd_Xp_at, nd_Xp_prop, nd_Xp_mc, nd_Sm_setA, nd_Xp_mkF, nd_Xp_mkH, nd_Xp_mul, nd_Xn_rep, nd_Xp_tupS, nd_Xn_lstS, nd_Ib_en, nd_Ib_zip2, nd_Ib_zip3, nd_Sm_tryN, nd_Xn_add, nd_Xp_lenO, nd_Xp_tzip, nd_Xn_sortK, nd_o, nd_al, nd_ar, biName, bnName, kdName, true_and, and_true]
    try exact trivial
    all_goals (repeat' (with_reducible apply And.intro))
    all_goals first | with_reducible assumption | exact trivial
  exact FnL.pure (gk_gx K mg) (DefAt.fnm (gk_gx K mg) (G := gx K mg) T.d_move sc_move ok_move nd (fun _ _ _ _ _ _ us hl => match us, hl with | [_, _, _], _ => rfl) hj)
theorem fn_after (T : Txt K mg C0 C1) (hj : 21 ≤ j) : FnL ⟨P, w, gx K mg, base, j⟩ "after" F_after := by
  have nd : needSs ir_after ⟨P, w, gx K mg, base, 18⟩ := by
    have b_all : BtL ⟨P, w, gx K mg, base, 18⟩ "all" := T.b_all
    have b_bool : BtL ⟨P, w, gx K mg, base, 18⟩ "bool" := T.b_bool
    have b_enumerate : BtL ⟨P, w, gx K mg, base, 18⟩ "enumerate" := T.b_enumerate
    have b_int : BtL ⟨P, w, gx K mg, base, 18⟩ "int" := T.b_int
    have b_isinstance : BtL ⟨P, w, gx K mg, base, 18⟩ "isinstance" := T.b_isinstance
    have b_len : BtL ⟨P, w, gx K mg, base, 18⟩ "len" := T.b_len
    have b_max : BtL ⟨P, w, gx K mg, base, 18⟩ "max" := T.b_max
    have b_min : BtL ⟨P, w, gx K mg, base, 18⟩ "min" := T.b_min
    have b_range : BtL ⟨P, w, gx K mg, base, 18⟩ "range" := T.b_range
    have b_sorted : BtL ⟨P, w, gx K mg, base, 18⟩ "sorted" := T.b_sorted
    have b_tuple : BtL ⟨P, w, gx K mg, base, 18⟩ "tuple" := T.b_tuple
    have b_zip : BtL ⟨P, w, gx K mg, base, 18⟩ "zip" := T.b_zip
    have g_PARTS : GvL ⟨P, w, gx K mg, base, 18⟩ "PARTS" (.tup [(.str [111, 110, 95, 98, 97, 99, 107]), (.str [111, 110, 95, 102, 117, 108, 108]), (.str [111, 110, 95, 114, 101, 115, 116, 97, 114, 116])]) := T.g_PARTS
    have g_BACK_WORDS : GvL ⟨P, w, gx K mg, base, 18⟩ "BACK_WORDS" (.tup [(.str [116, 114, 117, 115, 116]), (.str [104, 111, 108, 100]), (.str [114, 101, 102, 117, 115, 101])]) := T.g_BACK_WORDS
    have g_FULL_WORDS : GvL ⟨P, w, gx K mg, base, 18⟩ "FULL_WORDS" (.tup [(.str [119, 114, 97, 112]), (.str [98, 111, 114, 114, 111, 119]), (.str [114, 101, 102, 117, 115, 101])]) := T.g_FULL_WORDS
    have g_RESTART_WORDS : GvL ⟨P, w, gx K mg, base, 18⟩ "RESTART_WORDS" (.tup [(.str [102, 111, 114, 103, 101, 116]), (.str [115, 97, 118, 101, 100]), (.str [119, 97, 105, 116])]) := T.g_RESTART_WORDS
    have g_MAX_MAKERS : GvL ⟨P, w, gx K mg, base, 18⟩ "MAX_MAKERS" (.int 2) := T.g_MAX_MAKERS
    have g_MAX_MARK : GvL ⟨P, w, gx K mg, base, 18⟩ "MAX_MARK" (.int 3) := T.g_MAX_MARK
    have g_FRESH : GvL ⟨P, w, gx K mg, base, 18⟩ "FRESH" (.tup [(.int 0), (.int (-1)), (.int 0), (.int (-1))]) := T.g_FRESH
    have g_NONE : GvL ⟨P, w, gx K mg, base, 18⟩ "NONE" (.int (-1)) := T.g_NONE
    have g_CLOCK : GvL ⟨P, w, gx K mg, base, 18⟩ "CLOCK" (.str [99, 108, 111, 99, 107]) := T.g_CLOCK
    have g_GIVE : GvL ⟨P, w, gx K mg, base, 18⟩ "GIVE" (.str [103, 105, 118, 101]) := T.g_GIVE
    have g_RESTART : GvL ⟨P, w, gx K mg, base, 18⟩ "RESTART" (.str [114, 101, 115, 116, 97, 114, 116]) := T.g_RESTART
    have fl0_0 : FldL ⟨P, w, gx K mg, base, 18⟩ 0 0 := by obtain ⟨p, s1⟩ := T.fl0_0; exact fld_sl (t := ⟨P, w, gx K mg, base, 18⟩) (by decide) T.mc0 rfl T.sc0 s1 rfl
    have fl1_1 : FldL ⟨P, w, gx K mg, base, 18⟩ 1 1 := by obtain ⟨p, s1⟩ := T.fl1_1; exact fld_sl (t := ⟨P, w, gx K mg, base, 18⟩) (by decide) T.mc1 rfl T.sc1 s1 rfl
    have fl1_2 : FldL ⟨P, w, gx K mg, base, 18⟩ 1 2 := by obtain ⟨p, s1⟩ := T.fl1_2; exact fld_sl (t := ⟨P, w, gx K mg, base, 18⟩) (by decide) T.mc1 rfl T.sc1 s1 rfl
    have f_check_standing : FnL ⟨P, w, gx K mg, base, 18⟩ "check_standing" F_check_standing := fn_check_standing T (by decide)
    have f_move : FnL ⟨P, w, gx K mg, base, 18⟩ "move" F_move := fn_move T (by decide)
    simp only [ir_after, needSs, needA, needB, needO, needX, needS, needT, nd_Xp_v, nd_Xo_v, nd_Xp_c, nd_Xp_g, nd_Xp_neg, nd_Xp_bin, nd_Xp_cmp, nd_Xt_cmp, nd_Xt_e, nd_Xt_not, nd_Xt_and, nd_Xt_or, nd_Xp_and, nd_Xp_or, nd_Xp_not, nd_Xp_ite, nd_Xp_chain, nd_Xt_chain, nd_Xp_ix, nd_Xp_sl, nd_Xp_tup, nd_Xp_fz, nd_Xp_hp, nd_Xn_lst, nd_Xp_call, nd_Xp_bi, nd_Xn_bi, nd_Xp_isi, nd_Ib_seq, nd_Ib_r1, nd_Ib_r2, nd_Xn_lc, nd_Sm_asg, nd_Sm_asgO, nd_Sm_asgLc, nd_Sm_asgOLc, nd_Sm_ex, nd_Sm_ret, nd_Sm_retN, nd_Sm_pass, nd_Sm_brk, nd_Sm_cont, nd_Sm_nev, nd_Sm_doc, nd_Sm_ife, nd_Sm_for_, nd_Sm_whl, nd_Sm_par, nd_Sm_app, nd_Xp_app, nd_Sm_setO, nd_Sm_setH, nd_Xp_at, nd_Xp_prop, nd_Xp_mc, nd_Sm_setA, nd_Xp_mkF, nd_Xp_mkH, nd_Xp_mul, nd_Xn_rep, nd_Xp_tupS, nd_Xn_lstS, nd_Ib_en, nd_Ib_zip2, nd_Ib_zip3, nd_Sm_tryN, nd_Xn_add, nd_Xp_lenO, nd_Xp_tzip, nd_Xn_sortK, nd_o, nd_al, nd_ar, biName, bnName, kdName, true_and, and_true]
    try exact trivial
    all_goals (repeat' (with_reducible apply And.intro))
    all_goals first | with_reducible assumption | exact trivial
  exact FnL.pure (gk_gx K mg) (DefAt.fnm (gk_gx K mg) (G := gx K mg) T.d_after sc_after ok_after nd (fun _ _ _ _ _ _ us hl => match us, hl with | [_, _, _], _ => rfl) hj)
theorem fn_run (T : Txt K mg C0 C1) (hj : 21 ≤ j) : FnL ⟨P, w, gx K mg, base, j⟩ "run" F_run := by
  have nd : needSs ir_run ⟨P, w, gx K mg, base, 18⟩ := by
    have b_all : BtL ⟨P, w, gx K mg, base, 18⟩ "all" := T.b_all
    have b_bool : BtL ⟨P, w, gx K mg, base, 18⟩ "bool" := T.b_bool
    have b_enumerate : BtL ⟨P, w, gx K mg, base, 18⟩ "enumerate" := T.b_enumerate
    have b_int : BtL ⟨P, w, gx K mg, base, 18⟩ "int" := T.b_int
    have b_isinstance : BtL ⟨P, w, gx K mg, base, 18⟩ "isinstance" := T.b_isinstance
    have b_len : BtL ⟨P, w, gx K mg, base, 18⟩ "len" := T.b_len
    have b_max : BtL ⟨P, w, gx K mg, base, 18⟩ "max" := T.b_max
    have b_min : BtL ⟨P, w, gx K mg, base, 18⟩ "min" := T.b_min
    have b_range : BtL ⟨P, w, gx K mg, base, 18⟩ "range" := T.b_range
    have b_sorted : BtL ⟨P, w, gx K mg, base, 18⟩ "sorted" := T.b_sorted
    have b_tuple : BtL ⟨P, w, gx K mg, base, 18⟩ "tuple" := T.b_tuple
    have b_zip : BtL ⟨P, w, gx K mg, base, 18⟩ "zip" := T.b_zip
    have g_PARTS : GvL ⟨P, w, gx K mg, base, 18⟩ "PARTS" (.tup [(.str [111, 110, 95, 98, 97, 99, 107]), (.str [111, 110, 95, 102, 117, 108, 108]), (.str [111, 110, 95, 114, 101, 115, 116, 97, 114, 116])]) := T.g_PARTS
    have g_BACK_WORDS : GvL ⟨P, w, gx K mg, base, 18⟩ "BACK_WORDS" (.tup [(.str [116, 114, 117, 115, 116]), (.str [104, 111, 108, 100]), (.str [114, 101, 102, 117, 115, 101])]) := T.g_BACK_WORDS
    have g_FULL_WORDS : GvL ⟨P, w, gx K mg, base, 18⟩ "FULL_WORDS" (.tup [(.str [119, 114, 97, 112]), (.str [98, 111, 114, 114, 111, 119]), (.str [114, 101, 102, 117, 115, 101])]) := T.g_FULL_WORDS
    have g_RESTART_WORDS : GvL ⟨P, w, gx K mg, base, 18⟩ "RESTART_WORDS" (.tup [(.str [102, 111, 114, 103, 101, 116]), (.str [115, 97, 118, 101, 100]), (.str [119, 97, 105, 116])]) := T.g_RESTART_WORDS
    have g_MAX_MAKERS : GvL ⟨P, w, gx K mg, base, 18⟩ "MAX_MAKERS" (.int 2) := T.g_MAX_MAKERS
    have g_MAX_MARK : GvL ⟨P, w, gx K mg, base, 18⟩ "MAX_MARK" (.int 3) := T.g_MAX_MARK
    have g_FRESH : GvL ⟨P, w, gx K mg, base, 18⟩ "FRESH" (.tup [(.int 0), (.int (-1)), (.int 0), (.int (-1))]) := T.g_FRESH
    have g_NONE : GvL ⟨P, w, gx K mg, base, 18⟩ "NONE" (.int (-1)) := T.g_NONE
    have g_CLOCK : GvL ⟨P, w, gx K mg, base, 18⟩ "CLOCK" (.str [99, 108, 111, 99, 107]) := T.g_CLOCK
    have g_GIVE : GvL ⟨P, w, gx K mg, base, 18⟩ "GIVE" (.str [103, 105, 118, 101]) := T.g_GIVE
    have g_RESTART : GvL ⟨P, w, gx K mg, base, 18⟩ "RESTART" (.str [114, 101, 115, 116, 97, 114, 116]) := T.g_RESTART
    have fl0_0 : FldL ⟨P, w, gx K mg, base, 18⟩ 0 0 := by obtain ⟨p, s1⟩ := T.fl0_0; exact fld_sl (t := ⟨P, w, gx K mg, base, 18⟩) (by decide) T.mc0 rfl T.sc0 s1 rfl
    have fl1_1 : FldL ⟨P, w, gx K mg, base, 18⟩ 1 1 := by obtain ⟨p, s1⟩ := T.fl1_1; exact fld_sl (t := ⟨P, w, gx K mg, base, 18⟩) (by decide) T.mc1 rfl T.sc1 s1 rfl
    have fl1_2 : FldL ⟨P, w, gx K mg, base, 18⟩ 1 2 := by obtain ⟨p, s1⟩ := T.fl1_2; exact fld_sl (t := ⟨P, w, gx K mg, base, 18⟩) (by decide) T.mc1 rfl T.sc1 s1 rfl
    have f_begin : FnL ⟨P, w, gx K mg, base, 18⟩ "begin" F_begin := fn_begin T (by decide)
    have f_move : FnL ⟨P, w, gx K mg, base, 18⟩ "move" F_move := fn_move T (by decide)
    simp only [ir_run, needSs, needA, needB, needO, needX, needS, needT, nd_Xp_v, nd_Xo_v, nd_Xp_c, nd_Xp_g, nd_Xp_neg, nd_Xp_bin, nd_Xp_cmp, nd_Xt_cmp, nd_Xt_e, nd_Xt_not, nd_Xt_and, nd_Xt_or, nd_Xp_and, nd_Xp_or, nd_Xp_not, nd_Xp_ite, nd_Xp_chain, nd_Xt_chain, nd_Xp_ix, nd_Xp_sl, nd_Xp_tup, nd_Xp_fz, nd_Xp_hp, nd_Xn_lst, nd_Xp_call, nd_Xp_bi, nd_Xn_bi, nd_Xp_isi, nd_Ib_seq, nd_Ib_r1, nd_Ib_r2, nd_Xn_lc, nd_Sm_asg, nd_Sm_asgO, nd_Sm_asgLc, nd_Sm_asgOLc, nd_Sm_ex, nd_Sm_ret, nd_Sm_retN, nd_Sm_pass, nd_Sm_brk, nd_Sm_cont, nd_Sm_nev, nd_Sm_doc, nd_Sm_ife, nd_Sm_for_, nd_Sm_whl, nd_Sm_par, nd_Sm_app, nd_Xp_app, nd_Sm_setO, nd_Sm_setH, nd_Xp_at, nd_Xp_prop, nd_Xp_mc, nd_Sm_setA, nd_Xp_mkF, nd_Xp_mkH, nd_Xp_mul, nd_Xn_rep, nd_Xp_tupS, nd_Xn_lstS, nd_Ib_en, nd_Ib_zip2, nd_Ib_zip3, nd_Sm_tryN, nd_Xn_add, nd_Xp_lenO, nd_Xp_tzip, nd_Xn_sortK, nd_o, nd_al, nd_ar, biName, bnName, kdName, true_and, and_true]
    try exact trivial
    all_goals (repeat' (with_reducible apply And.intro))
    all_goals first | with_reducible assumption | exact trivial
  exact FnL.pure (gk_gx K mg) (DefAt.fnm (gk_gx K mg) (G := gx K mg) T.d_run sc_run ok_run nd (fun _ _ _ _ _ _ us hl => match us, hl with | [_, _], _ => rfl) hj)
theorem fn__law_taken (T : Txt K mg C0 C1) (hj : 3 ≤ j) : FnL ⟨P, w, gx K mg, base, j⟩ "_law_taken" F__law_taken := by
  have nd : needSs ir__law_taken ⟨P, w, gx K mg, base, 0⟩ := by
    have b_all : BtL ⟨P, w, gx K mg, base, 0⟩ "all" := T.b_all
    have b_bool : BtL ⟨P, w, gx K mg, base, 0⟩ "bool" := T.b_bool
    have b_enumerate : BtL ⟨P, w, gx K mg, base, 0⟩ "enumerate" := T.b_enumerate
    have b_int : BtL ⟨P, w, gx K mg, base, 0⟩ "int" := T.b_int
    have b_isinstance : BtL ⟨P, w, gx K mg, base, 0⟩ "isinstance" := T.b_isinstance
    have b_len : BtL ⟨P, w, gx K mg, base, 0⟩ "len" := T.b_len
    have b_max : BtL ⟨P, w, gx K mg, base, 0⟩ "max" := T.b_max
    have b_min : BtL ⟨P, w, gx K mg, base, 0⟩ "min" := T.b_min
    have b_range : BtL ⟨P, w, gx K mg, base, 0⟩ "range" := T.b_range
    have b_sorted : BtL ⟨P, w, gx K mg, base, 0⟩ "sorted" := T.b_sorted
    have b_tuple : BtL ⟨P, w, gx K mg, base, 0⟩ "tuple" := T.b_tuple
    have b_zip : BtL ⟨P, w, gx K mg, base, 0⟩ "zip" := T.b_zip
    have g_PARTS : GvL ⟨P, w, gx K mg, base, 0⟩ "PARTS" (.tup [(.str [111, 110, 95, 98, 97, 99, 107]), (.str [111, 110, 95, 102, 117, 108, 108]), (.str [111, 110, 95, 114, 101, 115, 116, 97, 114, 116])]) := T.g_PARTS
    have g_BACK_WORDS : GvL ⟨P, w, gx K mg, base, 0⟩ "BACK_WORDS" (.tup [(.str [116, 114, 117, 115, 116]), (.str [104, 111, 108, 100]), (.str [114, 101, 102, 117, 115, 101])]) := T.g_BACK_WORDS
    have g_FULL_WORDS : GvL ⟨P, w, gx K mg, base, 0⟩ "FULL_WORDS" (.tup [(.str [119, 114, 97, 112]), (.str [98, 111, 114, 114, 111, 119]), (.str [114, 101, 102, 117, 115, 101])]) := T.g_FULL_WORDS
    have g_RESTART_WORDS : GvL ⟨P, w, gx K mg, base, 0⟩ "RESTART_WORDS" (.tup [(.str [102, 111, 114, 103, 101, 116]), (.str [115, 97, 118, 101, 100]), (.str [119, 97, 105, 116])]) := T.g_RESTART_WORDS
    have g_MAX_MAKERS : GvL ⟨P, w, gx K mg, base, 0⟩ "MAX_MAKERS" (.int 2) := T.g_MAX_MAKERS
    have g_MAX_MARK : GvL ⟨P, w, gx K mg, base, 0⟩ "MAX_MARK" (.int 3) := T.g_MAX_MARK
    have g_FRESH : GvL ⟨P, w, gx K mg, base, 0⟩ "FRESH" (.tup [(.int 0), (.int (-1)), (.int 0), (.int (-1))]) := T.g_FRESH
    have g_NONE : GvL ⟨P, w, gx K mg, base, 0⟩ "NONE" (.int (-1)) := T.g_NONE
    have g_CLOCK : GvL ⟨P, w, gx K mg, base, 0⟩ "CLOCK" (.str [99, 108, 111, 99, 107]) := T.g_CLOCK
    have g_GIVE : GvL ⟨P, w, gx K mg, base, 0⟩ "GIVE" (.str [103, 105, 118, 101]) := T.g_GIVE
    have g_RESTART : GvL ⟨P, w, gx K mg, base, 0⟩ "RESTART" (.str [114, 101, 115, 116, 97, 114, 116]) := T.g_RESTART
    have fl0_0 : FldL ⟨P, w, gx K mg, base, 0⟩ 0 0 := by obtain ⟨p, s1⟩ := T.fl0_0; exact fld_sl (t := ⟨P, w, gx K mg, base, 0⟩) (by decide) T.mc0 rfl T.sc0 s1 rfl
    have fl1_1 : FldL ⟨P, w, gx K mg, base, 0⟩ 1 1 := by obtain ⟨p, s1⟩ := T.fl1_1; exact fld_sl (t := ⟨P, w, gx K mg, base, 0⟩) (by decide) T.mc1 rfl T.sc1 s1 rfl
    have fl1_2 : FldL ⟨P, w, gx K mg, base, 0⟩ 1 2 := by obtain ⟨p, s1⟩ := T.fl1_2; exact fld_sl (t := ⟨P, w, gx K mg, base, 0⟩) (by decide) T.mc1 rfl T.sc1 s1 rfl
    simp only [ir__law_taken, needSs, needA, needB, needO, needX, needS, needT, nd_Xp_v, nd_Xo_v, nd_Xp_c, nd_Xp_g, nd_Xp_neg, nd_Xp_bin, nd_Xp_cmp, nd_Xt_cmp, nd_Xt_e, nd_Xt_not, nd_Xt_and, nd_Xt_or, nd_Xp_and, nd_Xp_or, nd_Xp_not, nd_Xp_ite, nd_Xp_chain, nd_Xt_chain, nd_Xp_ix, nd_Xp_sl, nd_Xp_tup, nd_Xp_fz, nd_Xp_hp, nd_Xn_lst, nd_Xp_call, nd_Xp_bi, nd_Xn_bi, nd_Xp_isi, nd_Ib_seq, nd_Ib_r1, nd_Ib_r2, nd_Xn_lc, nd_Sm_asg, nd_Sm_asgO, nd_Sm_asgLc, nd_Sm_asgOLc, nd_Sm_ex, nd_Sm_ret, nd_Sm_retN, nd_Sm_pass, nd_Sm_brk, nd_Sm_cont, nd_Sm_nev, nd_Sm_doc, nd_Sm_ife, nd_Sm_for_, nd_Sm_whl, nd_Sm_par, nd_Sm_app, nd_Xp_app, nd_Sm_setO, nd_Sm_setH, nd_Xp_at, nd_Xp_prop, nd_Xp_mc, nd_Sm_setA, nd_Xp_mkF, nd_Xp_mkH, nd_Xp_mul, nd_Xn_rep, nd_Xp_tupS, nd_Xn_lstS, nd_Ib_en, nd_Ib_zip2, nd_Ib_zip3, nd_Sm_tryN, nd_Xn_add, nd_Xp_lenO, nd_Xp_tzip, nd_Xn_sortK, nd_o, nd_al, nd_ar, biName, bnName, kdName, true_and, and_true]
    try exact trivial
    all_goals (repeat' (with_reducible apply And.intro))
    all_goals first | with_reducible assumption | exact trivial
  exact FnL.row (gk_gx K mg) (DefAt.fnm (gk_gx K mg) (G := gx K mg) T.d__law_taken sc__law_taken ok__law_taken nd (fun _ _ _ _ _ _ us hl => match us, hl with | [_, _], _ => rfl) hj)
theorem fn__law_pick (T : Txt K mg C0 C1) (hj : 6 ≤ j) : FnL ⟨P, w, gx K mg, base, j⟩ "_law_pick" F__law_pick := by
  have nd : needSs ir__law_pick ⟨P, w, gx K mg, base, 3⟩ := by
    have b_all : BtL ⟨P, w, gx K mg, base, 3⟩ "all" := T.b_all
    have b_bool : BtL ⟨P, w, gx K mg, base, 3⟩ "bool" := T.b_bool
    have b_enumerate : BtL ⟨P, w, gx K mg, base, 3⟩ "enumerate" := T.b_enumerate
    have b_int : BtL ⟨P, w, gx K mg, base, 3⟩ "int" := T.b_int
    have b_isinstance : BtL ⟨P, w, gx K mg, base, 3⟩ "isinstance" := T.b_isinstance
    have b_len : BtL ⟨P, w, gx K mg, base, 3⟩ "len" := T.b_len
    have b_max : BtL ⟨P, w, gx K mg, base, 3⟩ "max" := T.b_max
    have b_min : BtL ⟨P, w, gx K mg, base, 3⟩ "min" := T.b_min
    have b_range : BtL ⟨P, w, gx K mg, base, 3⟩ "range" := T.b_range
    have b_sorted : BtL ⟨P, w, gx K mg, base, 3⟩ "sorted" := T.b_sorted
    have b_tuple : BtL ⟨P, w, gx K mg, base, 3⟩ "tuple" := T.b_tuple
    have b_zip : BtL ⟨P, w, gx K mg, base, 3⟩ "zip" := T.b_zip
    have g_PARTS : GvL ⟨P, w, gx K mg, base, 3⟩ "PARTS" (.tup [(.str [111, 110, 95, 98, 97, 99, 107]), (.str [111, 110, 95, 102, 117, 108, 108]), (.str [111, 110, 95, 114, 101, 115, 116, 97, 114, 116])]) := T.g_PARTS
    have g_BACK_WORDS : GvL ⟨P, w, gx K mg, base, 3⟩ "BACK_WORDS" (.tup [(.str [116, 114, 117, 115, 116]), (.str [104, 111, 108, 100]), (.str [114, 101, 102, 117, 115, 101])]) := T.g_BACK_WORDS
    have g_FULL_WORDS : GvL ⟨P, w, gx K mg, base, 3⟩ "FULL_WORDS" (.tup [(.str [119, 114, 97, 112]), (.str [98, 111, 114, 114, 111, 119]), (.str [114, 101, 102, 117, 115, 101])]) := T.g_FULL_WORDS
    have g_RESTART_WORDS : GvL ⟨P, w, gx K mg, base, 3⟩ "RESTART_WORDS" (.tup [(.str [102, 111, 114, 103, 101, 116]), (.str [115, 97, 118, 101, 100]), (.str [119, 97, 105, 116])]) := T.g_RESTART_WORDS
    have g_MAX_MAKERS : GvL ⟨P, w, gx K mg, base, 3⟩ "MAX_MAKERS" (.int 2) := T.g_MAX_MAKERS
    have g_MAX_MARK : GvL ⟨P, w, gx K mg, base, 3⟩ "MAX_MARK" (.int 3) := T.g_MAX_MARK
    have g_FRESH : GvL ⟨P, w, gx K mg, base, 3⟩ "FRESH" (.tup [(.int 0), (.int (-1)), (.int 0), (.int (-1))]) := T.g_FRESH
    have g_NONE : GvL ⟨P, w, gx K mg, base, 3⟩ "NONE" (.int (-1)) := T.g_NONE
    have g_CLOCK : GvL ⟨P, w, gx K mg, base, 3⟩ "CLOCK" (.str [99, 108, 111, 99, 107]) := T.g_CLOCK
    have g_GIVE : GvL ⟨P, w, gx K mg, base, 3⟩ "GIVE" (.str [103, 105, 118, 101]) := T.g_GIVE
    have g_RESTART : GvL ⟨P, w, gx K mg, base, 3⟩ "RESTART" (.str [114, 101, 115, 116, 97, 114, 116]) := T.g_RESTART
    have fl0_0 : FldL ⟨P, w, gx K mg, base, 3⟩ 0 0 := by obtain ⟨p, s1⟩ := T.fl0_0; exact fld_sl (t := ⟨P, w, gx K mg, base, 3⟩) (by decide) T.mc0 rfl T.sc0 s1 rfl
    have fl1_1 : FldL ⟨P, w, gx K mg, base, 3⟩ 1 1 := by obtain ⟨p, s1⟩ := T.fl1_1; exact fld_sl (t := ⟨P, w, gx K mg, base, 3⟩) (by decide) T.mc1 rfl T.sc1 s1 rfl
    have fl1_2 : FldL ⟨P, w, gx K mg, base, 3⟩ 1 2 := by obtain ⟨p, s1⟩ := T.fl1_2; exact fld_sl (t := ⟨P, w, gx K mg, base, 3⟩) (by decide) T.mc1 rfl T.sc1 s1 rfl
    have f__law_taken : FnL ⟨P, w, gx K mg, base, 3⟩ "_law_taken" F__law_taken := fn__law_taken T (by decide)
    simp only [ir__law_pick, needSs, needA, needB, needO, needX, needS, needT, nd_Xp_v, nd_Xo_v, nd_Xp_c, nd_Xp_g, nd_Xp_neg, nd_Xp_bin, nd_Xp_cmp, nd_Xt_cmp, nd_Xt_e, nd_Xt_not, nd_Xt_and, nd_Xt_or, nd_Xp_and, nd_Xp_or, nd_Xp_not, nd_Xp_ite, nd_Xp_chain, nd_Xt_chain, nd_Xp_ix, nd_Xp_sl, nd_Xp_tup, nd_Xp_fz, nd_Xp_hp, nd_Xn_lst, nd_Xp_call, nd_Xp_bi, nd_Xn_bi, nd_Xp_isi, nd_Ib_seq, nd_Ib_r1, nd_Ib_r2, nd_Xn_lc, nd_Sm_asg, nd_Sm_asgO, nd_Sm_asgLc, nd_Sm_asgOLc, nd_Sm_ex, nd_Sm_ret, nd_Sm_retN, nd_Sm_pass, nd_Sm_brk, nd_Sm_cont, nd_Sm_nev, nd_Sm_doc, nd_Sm_ife, nd_Sm_for_, nd_Sm_whl, nd_Sm_par, nd_Sm_app, nd_Xp_app, nd_Sm_setO, nd_Sm_setH, nd_Xp_at, nd_Xp_prop, nd_Xp_mc, nd_Sm_setA, nd_Xp_mkF, nd_Xp_mkH, nd_Xp_mul, nd_Xn_rep, nd_Xp_tupS, nd_Xn_lstS, nd_Ib_en, nd_Ib_zip2, nd_Ib_zip3, nd_Sm_tryN, nd_Xn_add, nd_Xp_lenO, nd_Xp_tzip, nd_Xn_sortK, nd_o, nd_al, nd_ar, biName, bnName, kdName, true_and, and_true]
    try exact trivial
    all_goals (repeat' (with_reducible apply And.intro))
    all_goals first | with_reducible assumption | exact trivial
  exact FnL.row (gk_gx K mg) (DefAt.fnm (gk_gx K mg) (G := gx K mg) T.d__law_pick sc__law_pick ok__law_pick nd (fun _ _ _ _ _ _ us hl => match us, hl with | [_, _], _ => rfl) hj)
theorem fn__law_words (T : Txt K mg C0 C1) (hj : 9 ≤ j) : FnL ⟨P, w, gx K mg, base, j⟩ "_law_words" F__law_words := by
  have nd : needSs ir__law_words ⟨P, w, gx K mg, base, 6⟩ := by
    have b_all : BtL ⟨P, w, gx K mg, base, 6⟩ "all" := T.b_all
    have b_bool : BtL ⟨P, w, gx K mg, base, 6⟩ "bool" := T.b_bool
    have b_enumerate : BtL ⟨P, w, gx K mg, base, 6⟩ "enumerate" := T.b_enumerate
    have b_int : BtL ⟨P, w, gx K mg, base, 6⟩ "int" := T.b_int
    have b_isinstance : BtL ⟨P, w, gx K mg, base, 6⟩ "isinstance" := T.b_isinstance
    have b_len : BtL ⟨P, w, gx K mg, base, 6⟩ "len" := T.b_len
    have b_max : BtL ⟨P, w, gx K mg, base, 6⟩ "max" := T.b_max
    have b_min : BtL ⟨P, w, gx K mg, base, 6⟩ "min" := T.b_min
    have b_range : BtL ⟨P, w, gx K mg, base, 6⟩ "range" := T.b_range
    have b_sorted : BtL ⟨P, w, gx K mg, base, 6⟩ "sorted" := T.b_sorted
    have b_tuple : BtL ⟨P, w, gx K mg, base, 6⟩ "tuple" := T.b_tuple
    have b_zip : BtL ⟨P, w, gx K mg, base, 6⟩ "zip" := T.b_zip
    have g_PARTS : GvL ⟨P, w, gx K mg, base, 6⟩ "PARTS" (.tup [(.str [111, 110, 95, 98, 97, 99, 107]), (.str [111, 110, 95, 102, 117, 108, 108]), (.str [111, 110, 95, 114, 101, 115, 116, 97, 114, 116])]) := T.g_PARTS
    have g_BACK_WORDS : GvL ⟨P, w, gx K mg, base, 6⟩ "BACK_WORDS" (.tup [(.str [116, 114, 117, 115, 116]), (.str [104, 111, 108, 100]), (.str [114, 101, 102, 117, 115, 101])]) := T.g_BACK_WORDS
    have g_FULL_WORDS : GvL ⟨P, w, gx K mg, base, 6⟩ "FULL_WORDS" (.tup [(.str [119, 114, 97, 112]), (.str [98, 111, 114, 114, 111, 119]), (.str [114, 101, 102, 117, 115, 101])]) := T.g_FULL_WORDS
    have g_RESTART_WORDS : GvL ⟨P, w, gx K mg, base, 6⟩ "RESTART_WORDS" (.tup [(.str [102, 111, 114, 103, 101, 116]), (.str [115, 97, 118, 101, 100]), (.str [119, 97, 105, 116])]) := T.g_RESTART_WORDS
    have g_MAX_MAKERS : GvL ⟨P, w, gx K mg, base, 6⟩ "MAX_MAKERS" (.int 2) := T.g_MAX_MAKERS
    have g_MAX_MARK : GvL ⟨P, w, gx K mg, base, 6⟩ "MAX_MARK" (.int 3) := T.g_MAX_MARK
    have g_FRESH : GvL ⟨P, w, gx K mg, base, 6⟩ "FRESH" (.tup [(.int 0), (.int (-1)), (.int 0), (.int (-1))]) := T.g_FRESH
    have g_NONE : GvL ⟨P, w, gx K mg, base, 6⟩ "NONE" (.int (-1)) := T.g_NONE
    have g_CLOCK : GvL ⟨P, w, gx K mg, base, 6⟩ "CLOCK" (.str [99, 108, 111, 99, 107]) := T.g_CLOCK
    have g_GIVE : GvL ⟨P, w, gx K mg, base, 6⟩ "GIVE" (.str [103, 105, 118, 101]) := T.g_GIVE
    have g_RESTART : GvL ⟨P, w, gx K mg, base, 6⟩ "RESTART" (.str [114, 101, 115, 116, 97, 114, 116]) := T.g_RESTART
    have fl0_0 : FldL ⟨P, w, gx K mg, base, 6⟩ 0 0 := by obtain ⟨p, s1⟩ := T.fl0_0; exact fld_sl (t := ⟨P, w, gx K mg, base, 6⟩) (by decide) T.mc0 rfl T.sc0 s1 rfl
    have fl1_1 : FldL ⟨P, w, gx K mg, base, 6⟩ 1 1 := by obtain ⟨p, s1⟩ := T.fl1_1; exact fld_sl (t := ⟨P, w, gx K mg, base, 6⟩) (by decide) T.mc1 rfl T.sc1 s1 rfl
    have fl1_2 : FldL ⟨P, w, gx K mg, base, 6⟩ 1 2 := by obtain ⟨p, s1⟩ := T.fl1_2; exact fld_sl (t := ⟨P, w, gx K mg, base, 6⟩) (by decide) T.mc1 rfl T.sc1 s1 rfl
    have f__law_pick : FnL ⟨P, w, gx K mg, base, 6⟩ "_law_pick" F__law_pick := fn__law_pick T (by decide)
    simp only [ir__law_words, needSs, needA, needB, needO, needX, needS, needT, nd_Xp_v, nd_Xo_v, nd_Xp_c, nd_Xp_g, nd_Xp_neg, nd_Xp_bin, nd_Xp_cmp, nd_Xt_cmp, nd_Xt_e, nd_Xt_not, nd_Xt_and, nd_Xt_or, nd_Xp_and, nd_Xp_or, nd_Xp_not, nd_Xp_ite, nd_Xp_chain, nd_Xt_chain, nd_Xp_ix, nd_Xp_sl, nd_Xp_tup, nd_Xp_fz, nd_Xp_hp, nd_Xn_lst, nd_Xp_call, nd_Xp_bi, nd_Xn_bi, nd_Xp_isi, nd_Ib_seq, nd_Ib_r1, nd_Ib_r2, nd_Xn_lc, nd_Sm_asg, nd_Sm_asgO, nd_Sm_asgLc, nd_Sm_asgOLc, nd_Sm_ex, nd_Sm_ret, nd_Sm_retN, nd_Sm_pass, nd_Sm_brk, nd_Sm_cont, nd_Sm_nev, nd_Sm_doc, nd_Sm_ife, nd_Sm_for_, nd_Sm_whl, nd_Sm_par, nd_Sm_app, nd_Xp_app, nd_Sm_setO, nd_Sm_setH, nd_Xp_at, nd_Xp_prop, nd_Xp_mc, nd_Sm_setA, nd_Xp_mkF, nd_Xp_mkH, nd_Xp_mul, nd_Xn_rep, nd_Xp_tupS, nd_Xn_lstS, nd_Ib_en, nd_Ib_zip2, nd_Ib_zip3, nd_Sm_tryN, nd_Xn_add, nd_Xp_lenO, nd_Xp_tzip, nd_Xn_sortK, nd_o, nd_al, nd_ar, biName, bnName, kdName, true_and, and_true]
    try exact trivial
    all_goals (repeat' (with_reducible apply And.intro))
    all_goals first | with_reducible assumption | exact trivial
  exact FnL.row (gk_gx K mg) (DefAt.fnm (gk_gx K mg) (G := gx K mg) T.d__law_words sc__law_words ok__law_words nd (fun _ _ _ _ _ _ us hl => match us, hl with | [_], _ => rfl) hj)
theorem fn__law_scheme (T : Txt K mg C0 C1) (hj : 12 ≤ j) : FnL ⟨P, w, gx K mg, base, j⟩ "_law_scheme" F__law_scheme := by
  have nd : needSs ir__law_scheme ⟨P, w, gx K mg, base, 9⟩ := by
    have b_all : BtL ⟨P, w, gx K mg, base, 9⟩ "all" := T.b_all
    have b_bool : BtL ⟨P, w, gx K mg, base, 9⟩ "bool" := T.b_bool
    have b_enumerate : BtL ⟨P, w, gx K mg, base, 9⟩ "enumerate" := T.b_enumerate
    have b_int : BtL ⟨P, w, gx K mg, base, 9⟩ "int" := T.b_int
    have b_isinstance : BtL ⟨P, w, gx K mg, base, 9⟩ "isinstance" := T.b_isinstance
    have b_len : BtL ⟨P, w, gx K mg, base, 9⟩ "len" := T.b_len
    have b_max : BtL ⟨P, w, gx K mg, base, 9⟩ "max" := T.b_max
    have b_min : BtL ⟨P, w, gx K mg, base, 9⟩ "min" := T.b_min
    have b_range : BtL ⟨P, w, gx K mg, base, 9⟩ "range" := T.b_range
    have b_sorted : BtL ⟨P, w, gx K mg, base, 9⟩ "sorted" := T.b_sorted
    have b_tuple : BtL ⟨P, w, gx K mg, base, 9⟩ "tuple" := T.b_tuple
    have b_zip : BtL ⟨P, w, gx K mg, base, 9⟩ "zip" := T.b_zip
    have g_PARTS : GvL ⟨P, w, gx K mg, base, 9⟩ "PARTS" (.tup [(.str [111, 110, 95, 98, 97, 99, 107]), (.str [111, 110, 95, 102, 117, 108, 108]), (.str [111, 110, 95, 114, 101, 115, 116, 97, 114, 116])]) := T.g_PARTS
    have g_BACK_WORDS : GvL ⟨P, w, gx K mg, base, 9⟩ "BACK_WORDS" (.tup [(.str [116, 114, 117, 115, 116]), (.str [104, 111, 108, 100]), (.str [114, 101, 102, 117, 115, 101])]) := T.g_BACK_WORDS
    have g_FULL_WORDS : GvL ⟨P, w, gx K mg, base, 9⟩ "FULL_WORDS" (.tup [(.str [119, 114, 97, 112]), (.str [98, 111, 114, 114, 111, 119]), (.str [114, 101, 102, 117, 115, 101])]) := T.g_FULL_WORDS
    have g_RESTART_WORDS : GvL ⟨P, w, gx K mg, base, 9⟩ "RESTART_WORDS" (.tup [(.str [102, 111, 114, 103, 101, 116]), (.str [115, 97, 118, 101, 100]), (.str [119, 97, 105, 116])]) := T.g_RESTART_WORDS
    have g_MAX_MAKERS : GvL ⟨P, w, gx K mg, base, 9⟩ "MAX_MAKERS" (.int 2) := T.g_MAX_MAKERS
    have g_MAX_MARK : GvL ⟨P, w, gx K mg, base, 9⟩ "MAX_MARK" (.int 3) := T.g_MAX_MARK
    have g_FRESH : GvL ⟨P, w, gx K mg, base, 9⟩ "FRESH" (.tup [(.int 0), (.int (-1)), (.int 0), (.int (-1))]) := T.g_FRESH
    have g_NONE : GvL ⟨P, w, gx K mg, base, 9⟩ "NONE" (.int (-1)) := T.g_NONE
    have g_CLOCK : GvL ⟨P, w, gx K mg, base, 9⟩ "CLOCK" (.str [99, 108, 111, 99, 107]) := T.g_CLOCK
    have g_GIVE : GvL ⟨P, w, gx K mg, base, 9⟩ "GIVE" (.str [103, 105, 118, 101]) := T.g_GIVE
    have g_RESTART : GvL ⟨P, w, gx K mg, base, 9⟩ "RESTART" (.str [114, 101, 115, 116, 97, 114, 116]) := T.g_RESTART
    have fl0_0 : FldL ⟨P, w, gx K mg, base, 9⟩ 0 0 := by obtain ⟨p, s1⟩ := T.fl0_0; exact fld_sl (t := ⟨P, w, gx K mg, base, 9⟩) (by decide) T.mc0 rfl T.sc0 s1 rfl
    have fl1_1 : FldL ⟨P, w, gx K mg, base, 9⟩ 1 1 := by obtain ⟨p, s1⟩ := T.fl1_1; exact fld_sl (t := ⟨P, w, gx K mg, base, 9⟩) (by decide) T.mc1 rfl T.sc1 s1 rfl
    have fl1_2 : FldL ⟨P, w, gx K mg, base, 9⟩ 1 2 := by obtain ⟨p, s1⟩ := T.fl1_2; exact fld_sl (t := ⟨P, w, gx K mg, base, 9⟩) (by decide) T.mc1 rfl T.sc1 s1 rfl
    have f__law_taken : FnL ⟨P, w, gx K mg, base, 9⟩ "_law_taken" F__law_taken := fn__law_taken T (by decide)
    have f__law_words : FnL ⟨P, w, gx K mg, base, 9⟩ "_law_words" F__law_words := fn__law_words T (by decide)
    have f__law_pick : FnL ⟨P, w, gx K mg, base, 9⟩ "_law_pick" F__law_pick := fn__law_pick T (by decide)
    simp only [ir__law_scheme, needSs, needA, needB, needO, needX, needS, needT, nd_Xp_v, nd_Xo_v, nd_Xp_c, nd_Xp_g, nd_Xp_neg, nd_Xp_bin, nd_Xp_cmp, nd_Xt_cmp, nd_Xt_e, nd_Xt_not, nd_Xt_and, nd_Xt_or, nd_Xp_and, nd_Xp_or, nd_Xp_not, nd_Xp_ite, nd_Xp_chain, nd_Xt_chain, nd_Xp_ix, nd_Xp_sl, nd_Xp_tup, nd_Xp_fz, nd_Xp_hp, nd_Xn_lst, nd_Xp_call, nd_Xp_bi, nd_Xn_bi, nd_Xp_isi, nd_Ib_seq, nd_Ib_r1, nd_Ib_r2, nd_Xn_lc, nd_Sm_asg, nd_Sm_asgO, nd_Sm_asgLc, nd_Sm_asgOLc, nd_Sm_ex, nd_Sm_ret, nd_Sm_retN, nd_Sm_pass, nd_Sm_brk, nd_Sm_cont, nd_Sm_nev, nd_Sm_doc, nd_Sm_ife, nd_Sm_for_, nd_Sm_whl, nd_Sm_par, nd_Sm_app, nd_Xp_app, nd_Sm_setO, nd_Sm_setH, nd_Xp_at, nd_Xp_prop, nd_Xp_mc, nd_Sm_setA, nd_Xp_mkF, nd_Xp_mkH, nd_Xp_mul, nd_Xn_rep, nd_Xp_tupS, nd_Xn_lstS, nd_Ib_en, nd_Ib_zip2, nd_Ib_zip3, nd_Sm_tryN, nd_Xn_add, nd_Xp_lenO, nd_Xp_tzip, nd_Xn_sortK, nd_o, nd_al, nd_ar, biName, bnName, kdName, true_and, and_true]
    try exact trivial
    all_goals (repeat' (with_reducible apply And.intro))
    all_goals first | with_reducible assumption | exact trivial
  exact FnL.row (gk_gx K mg) (DefAt.fnm (gk_gx K mg) (G := gx K mg) T.d__law_scheme sc__law_scheme ok__law_scheme nd (fun _ _ _ _ _ _ us hl => match us, hl with | [_, _], _ => rfl) hj)
theorem fn__law_setup (T : Txt K mg C0 C1) (hj : 12 ≤ j) : FnL ⟨P, w, gx K mg, base, j⟩ "_law_setup" F__law_setup := by
  have nd : needSs ir__law_setup ⟨P, w, gx K mg, base, 9⟩ := by
    have b_all : BtL ⟨P, w, gx K mg, base, 9⟩ "all" := T.b_all
    have b_bool : BtL ⟨P, w, gx K mg, base, 9⟩ "bool" := T.b_bool
    have b_enumerate : BtL ⟨P, w, gx K mg, base, 9⟩ "enumerate" := T.b_enumerate
    have b_int : BtL ⟨P, w, gx K mg, base, 9⟩ "int" := T.b_int
    have b_isinstance : BtL ⟨P, w, gx K mg, base, 9⟩ "isinstance" := T.b_isinstance
    have b_len : BtL ⟨P, w, gx K mg, base, 9⟩ "len" := T.b_len
    have b_max : BtL ⟨P, w, gx K mg, base, 9⟩ "max" := T.b_max
    have b_min : BtL ⟨P, w, gx K mg, base, 9⟩ "min" := T.b_min
    have b_range : BtL ⟨P, w, gx K mg, base, 9⟩ "range" := T.b_range
    have b_sorted : BtL ⟨P, w, gx K mg, base, 9⟩ "sorted" := T.b_sorted
    have b_tuple : BtL ⟨P, w, gx K mg, base, 9⟩ "tuple" := T.b_tuple
    have b_zip : BtL ⟨P, w, gx K mg, base, 9⟩ "zip" := T.b_zip
    have g_PARTS : GvL ⟨P, w, gx K mg, base, 9⟩ "PARTS" (.tup [(.str [111, 110, 95, 98, 97, 99, 107]), (.str [111, 110, 95, 102, 117, 108, 108]), (.str [111, 110, 95, 114, 101, 115, 116, 97, 114, 116])]) := T.g_PARTS
    have g_BACK_WORDS : GvL ⟨P, w, gx K mg, base, 9⟩ "BACK_WORDS" (.tup [(.str [116, 114, 117, 115, 116]), (.str [104, 111, 108, 100]), (.str [114, 101, 102, 117, 115, 101])]) := T.g_BACK_WORDS
    have g_FULL_WORDS : GvL ⟨P, w, gx K mg, base, 9⟩ "FULL_WORDS" (.tup [(.str [119, 114, 97, 112]), (.str [98, 111, 114, 114, 111, 119]), (.str [114, 101, 102, 117, 115, 101])]) := T.g_FULL_WORDS
    have g_RESTART_WORDS : GvL ⟨P, w, gx K mg, base, 9⟩ "RESTART_WORDS" (.tup [(.str [102, 111, 114, 103, 101, 116]), (.str [115, 97, 118, 101, 100]), (.str [119, 97, 105, 116])]) := T.g_RESTART_WORDS
    have g_MAX_MAKERS : GvL ⟨P, w, gx K mg, base, 9⟩ "MAX_MAKERS" (.int 2) := T.g_MAX_MAKERS
    have g_MAX_MARK : GvL ⟨P, w, gx K mg, base, 9⟩ "MAX_MARK" (.int 3) := T.g_MAX_MARK
    have g_FRESH : GvL ⟨P, w, gx K mg, base, 9⟩ "FRESH" (.tup [(.int 0), (.int (-1)), (.int 0), (.int (-1))]) := T.g_FRESH
    have g_NONE : GvL ⟨P, w, gx K mg, base, 9⟩ "NONE" (.int (-1)) := T.g_NONE
    have g_CLOCK : GvL ⟨P, w, gx K mg, base, 9⟩ "CLOCK" (.str [99, 108, 111, 99, 107]) := T.g_CLOCK
    have g_GIVE : GvL ⟨P, w, gx K mg, base, 9⟩ "GIVE" (.str [103, 105, 118, 101]) := T.g_GIVE
    have g_RESTART : GvL ⟨P, w, gx K mg, base, 9⟩ "RESTART" (.str [114, 101, 115, 116, 97, 114, 116]) := T.g_RESTART
    have fl0_0 : FldL ⟨P, w, gx K mg, base, 9⟩ 0 0 := by obtain ⟨p, s1⟩ := T.fl0_0; exact fld_sl (t := ⟨P, w, gx K mg, base, 9⟩) (by decide) T.mc0 rfl T.sc0 s1 rfl
    have fl1_1 : FldL ⟨P, w, gx K mg, base, 9⟩ 1 1 := by obtain ⟨p, s1⟩ := T.fl1_1; exact fld_sl (t := ⟨P, w, gx K mg, base, 9⟩) (by decide) T.mc1 rfl T.sc1 s1 rfl
    have fl1_2 : FldL ⟨P, w, gx K mg, base, 9⟩ 1 2 := by obtain ⟨p, s1⟩ := T.fl1_2; exact fld_sl (t := ⟨P, w, gx K mg, base, 9⟩) (by decide) T.mc1 rfl T.sc1 s1 rfl
    have f_Setup___init__ : MkL ⟨P, w, gx K mg, base, 9⟩ 1 F_Setup___init__ := fn_Setup___init__ T (by decide)
    have f_Plan___init__ : MkL ⟨P, w, gx K mg, base, 9⟩ 0 F_Plan___init__ := fn_Plan___init__ T (by decide)
    simp only [ir__law_setup, needSs, needA, needB, needO, needX, needS, needT, nd_Xp_v, nd_Xo_v, nd_Xp_c, nd_Xp_g, nd_Xp_neg, nd_Xp_bin, nd_Xp_cmp, nd_Xt_cmp, nd_Xt_e, nd_Xt_not, nd_Xt_and, nd_Xt_or, nd_Xp_and, nd_Xp_or, nd_Xp_not, nd_Xp_ite, nd_Xp_chain, nd_Xt_chain, nd_Xp_ix, nd_Xp_sl, nd_Xp_tup, nd_Xp_fz, nd_Xp_hp, nd_Xn_lst, nd_Xp_call, nd_Xp_bi, nd_Xn_bi, nd_Xp_isi, nd_Ib_seq, nd_Ib_r1, nd_Ib_r2, nd_Xn_lc, nd_Sm_asg, nd_Sm_asgO, nd_Sm_asgLc, nd_Sm_asgOLc, nd_Sm_ex, nd_Sm_ret, nd_Sm_retN, nd_Sm_pass, nd_Sm_brk, nd_Sm_cont, nd_Sm_nev, nd_Sm_doc, nd_Sm_ife, nd_Sm_for_, nd_Sm_whl, nd_Sm_par, nd_Sm_app, nd_Xp_app, nd_Sm_setO, nd_Sm_setH, nd_Xp_at, nd_Xp_prop, nd_Xp_mc, nd_Sm_setA, nd_Xp_mkF, nd_Xp_mkH, nd_Xp_mul, nd_Xn_rep, nd_Xp_tupS, nd_Xn_lstS, nd_Ib_en, nd_Ib_zip2, nd_Ib_zip3, nd_Sm_tryN, nd_Xn_add, nd_Xp_lenO, nd_Xp_tzip, nd_Xn_sortK, nd_o, nd_al, nd_ar, biName, bnName, kdName, true_and, and_true]
    try exact trivial
    all_goals (repeat' (with_reducible apply And.intro))
    all_goals first | with_reducible assumption | exact trivial
  exact FnL.pure (gk_gx K mg) (DefAt.fnm (gk_gx K mg) (G := gx K mg) T.d__law_setup sc__law_setup ok__law_setup nd (fun _ _ _ _ _ _ us hl => match us, hl with | [_], _ => rfl) hj)
theorem fn__law_give (T : Txt K mg C0 C1) (hj : 3 ≤ j) : FnL ⟨P, w, gx K mg, base, j⟩ "_law_give" F__law_give := by
  have nd : needSs ir__law_give ⟨P, w, gx K mg, base, 0⟩ := by
    have b_all : BtL ⟨P, w, gx K mg, base, 0⟩ "all" := T.b_all
    have b_bool : BtL ⟨P, w, gx K mg, base, 0⟩ "bool" := T.b_bool
    have b_enumerate : BtL ⟨P, w, gx K mg, base, 0⟩ "enumerate" := T.b_enumerate
    have b_int : BtL ⟨P, w, gx K mg, base, 0⟩ "int" := T.b_int
    have b_isinstance : BtL ⟨P, w, gx K mg, base, 0⟩ "isinstance" := T.b_isinstance
    have b_len : BtL ⟨P, w, gx K mg, base, 0⟩ "len" := T.b_len
    have b_max : BtL ⟨P, w, gx K mg, base, 0⟩ "max" := T.b_max
    have b_min : BtL ⟨P, w, gx K mg, base, 0⟩ "min" := T.b_min
    have b_range : BtL ⟨P, w, gx K mg, base, 0⟩ "range" := T.b_range
    have b_sorted : BtL ⟨P, w, gx K mg, base, 0⟩ "sorted" := T.b_sorted
    have b_tuple : BtL ⟨P, w, gx K mg, base, 0⟩ "tuple" := T.b_tuple
    have b_zip : BtL ⟨P, w, gx K mg, base, 0⟩ "zip" := T.b_zip
    have g_PARTS : GvL ⟨P, w, gx K mg, base, 0⟩ "PARTS" (.tup [(.str [111, 110, 95, 98, 97, 99, 107]), (.str [111, 110, 95, 102, 117, 108, 108]), (.str [111, 110, 95, 114, 101, 115, 116, 97, 114, 116])]) := T.g_PARTS
    have g_BACK_WORDS : GvL ⟨P, w, gx K mg, base, 0⟩ "BACK_WORDS" (.tup [(.str [116, 114, 117, 115, 116]), (.str [104, 111, 108, 100]), (.str [114, 101, 102, 117, 115, 101])]) := T.g_BACK_WORDS
    have g_FULL_WORDS : GvL ⟨P, w, gx K mg, base, 0⟩ "FULL_WORDS" (.tup [(.str [119, 114, 97, 112]), (.str [98, 111, 114, 114, 111, 119]), (.str [114, 101, 102, 117, 115, 101])]) := T.g_FULL_WORDS
    have g_RESTART_WORDS : GvL ⟨P, w, gx K mg, base, 0⟩ "RESTART_WORDS" (.tup [(.str [102, 111, 114, 103, 101, 116]), (.str [115, 97, 118, 101, 100]), (.str [119, 97, 105, 116])]) := T.g_RESTART_WORDS
    have g_MAX_MAKERS : GvL ⟨P, w, gx K mg, base, 0⟩ "MAX_MAKERS" (.int 2) := T.g_MAX_MAKERS
    have g_MAX_MARK : GvL ⟨P, w, gx K mg, base, 0⟩ "MAX_MARK" (.int 3) := T.g_MAX_MARK
    have g_FRESH : GvL ⟨P, w, gx K mg, base, 0⟩ "FRESH" (.tup [(.int 0), (.int (-1)), (.int 0), (.int (-1))]) := T.g_FRESH
    have g_NONE : GvL ⟨P, w, gx K mg, base, 0⟩ "NONE" (.int (-1)) := T.g_NONE
    have g_CLOCK : GvL ⟨P, w, gx K mg, base, 0⟩ "CLOCK" (.str [99, 108, 111, 99, 107]) := T.g_CLOCK
    have g_GIVE : GvL ⟨P, w, gx K mg, base, 0⟩ "GIVE" (.str [103, 105, 118, 101]) := T.g_GIVE
    have g_RESTART : GvL ⟨P, w, gx K mg, base, 0⟩ "RESTART" (.str [114, 101, 115, 116, 97, 114, 116]) := T.g_RESTART
    have fl0_0 : FldL ⟨P, w, gx K mg, base, 0⟩ 0 0 := by obtain ⟨p, s1⟩ := T.fl0_0; exact fld_sl (t := ⟨P, w, gx K mg, base, 0⟩) (by decide) T.mc0 rfl T.sc0 s1 rfl
    have fl1_1 : FldL ⟨P, w, gx K mg, base, 0⟩ 1 1 := by obtain ⟨p, s1⟩ := T.fl1_1; exact fld_sl (t := ⟨P, w, gx K mg, base, 0⟩) (by decide) T.mc1 rfl T.sc1 s1 rfl
    have fl1_2 : FldL ⟨P, w, gx K mg, base, 0⟩ 1 2 := by obtain ⟨p, s1⟩ := T.fl1_2; exact fld_sl (t := ⟨P, w, gx K mg, base, 0⟩) (by decide) T.mc1 rfl T.sc1 s1 rfl
    simp only [ir__law_give, needSs, needA, needB, needO, needX, needS, needT, nd_Xp_v, nd_Xo_v, nd_Xp_c, nd_Xp_g, nd_Xp_neg, nd_Xp_bin, nd_Xp_cmp, nd_Xt_cmp, nd_Xt_e, nd_Xt_not, nd_Xt_and, nd_Xt_or, nd_Xp_and, nd_Xp_or, nd_Xp_not, nd_Xp_ite, nd_Xp_chain, nd_Xt_chain, nd_Xp_ix, nd_Xp_sl, nd_Xp_tup, nd_Xp_fz, nd_Xp_hp, nd_Xn_lst, nd_Xp_call, nd_Xp_bi, nd_Xn_bi, nd_Xp_isi, nd_Ib_seq, nd_Ib_r1, nd_Ib_r2, nd_Xn_lc, nd_Sm_asg, nd_Sm_asgO, nd_Sm_asgLc, nd_Sm_asgOLc, nd_Sm_ex, nd_Sm_ret, nd_Sm_retN, nd_Sm_pass, nd_Sm_brk, nd_Sm_cont, nd_Sm_nev, nd_Sm_doc, nd_Sm_ife, nd_Sm_for_, nd_Sm_whl, nd_Sm_par, nd_Sm_app, nd_Xp_app, nd_Sm_setO, nd_Sm_setH, nd_Xp_at, nd_Xp_prop, nd_Xp_mc, nd_Sm_setA, nd_Xp_mkF, nd_Xp_mkH, nd_Xp_mul, nd_Xn_rep, nd_Xp_tupS, nd_Xn_lstS, nd_Ib_en, nd_Ib_zip2, nd_Ib_zip3, nd_Sm_tryN, nd_Xn_add, nd_Xp_lenO, nd_Xp_tzip, nd_Xn_sortK, nd_o, nd_al, nd_ar, biName, bnName, kdName, true_and, and_true]
    try exact trivial
    all_goals (repeat' (with_reducible apply And.intro))
    all_goals first | with_reducible assumption | exact trivial
  exact FnL.pure (gk_gx K mg) (DefAt.fnm (gk_gx K mg) (G := gx K mg) T.d__law_give sc__law_give ok__law_give nd (fun _ _ _ _ _ _ us hl => match us, hl with | [_, _, _], _ => rfl) hj)
theorem fn__law_step (T : Txt K mg C0 C1) (hj : 6 ≤ j) : FnL ⟨P, w, gx K mg, base, j⟩ "_law_step" F__law_step := by
  have nd : needSs ir__law_step ⟨P, w, gx K mg, base, 3⟩ := by
    have b_all : BtL ⟨P, w, gx K mg, base, 3⟩ "all" := T.b_all
    have b_bool : BtL ⟨P, w, gx K mg, base, 3⟩ "bool" := T.b_bool
    have b_enumerate : BtL ⟨P, w, gx K mg, base, 3⟩ "enumerate" := T.b_enumerate
    have b_int : BtL ⟨P, w, gx K mg, base, 3⟩ "int" := T.b_int
    have b_isinstance : BtL ⟨P, w, gx K mg, base, 3⟩ "isinstance" := T.b_isinstance
    have b_len : BtL ⟨P, w, gx K mg, base, 3⟩ "len" := T.b_len
    have b_max : BtL ⟨P, w, gx K mg, base, 3⟩ "max" := T.b_max
    have b_min : BtL ⟨P, w, gx K mg, base, 3⟩ "min" := T.b_min
    have b_range : BtL ⟨P, w, gx K mg, base, 3⟩ "range" := T.b_range
    have b_sorted : BtL ⟨P, w, gx K mg, base, 3⟩ "sorted" := T.b_sorted
    have b_tuple : BtL ⟨P, w, gx K mg, base, 3⟩ "tuple" := T.b_tuple
    have b_zip : BtL ⟨P, w, gx K mg, base, 3⟩ "zip" := T.b_zip
    have g_PARTS : GvL ⟨P, w, gx K mg, base, 3⟩ "PARTS" (.tup [(.str [111, 110, 95, 98, 97, 99, 107]), (.str [111, 110, 95, 102, 117, 108, 108]), (.str [111, 110, 95, 114, 101, 115, 116, 97, 114, 116])]) := T.g_PARTS
    have g_BACK_WORDS : GvL ⟨P, w, gx K mg, base, 3⟩ "BACK_WORDS" (.tup [(.str [116, 114, 117, 115, 116]), (.str [104, 111, 108, 100]), (.str [114, 101, 102, 117, 115, 101])]) := T.g_BACK_WORDS
    have g_FULL_WORDS : GvL ⟨P, w, gx K mg, base, 3⟩ "FULL_WORDS" (.tup [(.str [119, 114, 97, 112]), (.str [98, 111, 114, 114, 111, 119]), (.str [114, 101, 102, 117, 115, 101])]) := T.g_FULL_WORDS
    have g_RESTART_WORDS : GvL ⟨P, w, gx K mg, base, 3⟩ "RESTART_WORDS" (.tup [(.str [102, 111, 114, 103, 101, 116]), (.str [115, 97, 118, 101, 100]), (.str [119, 97, 105, 116])]) := T.g_RESTART_WORDS
    have g_MAX_MAKERS : GvL ⟨P, w, gx K mg, base, 3⟩ "MAX_MAKERS" (.int 2) := T.g_MAX_MAKERS
    have g_MAX_MARK : GvL ⟨P, w, gx K mg, base, 3⟩ "MAX_MARK" (.int 3) := T.g_MAX_MARK
    have g_FRESH : GvL ⟨P, w, gx K mg, base, 3⟩ "FRESH" (.tup [(.int 0), (.int (-1)), (.int 0), (.int (-1))]) := T.g_FRESH
    have g_NONE : GvL ⟨P, w, gx K mg, base, 3⟩ "NONE" (.int (-1)) := T.g_NONE
    have g_CLOCK : GvL ⟨P, w, gx K mg, base, 3⟩ "CLOCK" (.str [99, 108, 111, 99, 107]) := T.g_CLOCK
    have g_GIVE : GvL ⟨P, w, gx K mg, base, 3⟩ "GIVE" (.str [103, 105, 118, 101]) := T.g_GIVE
    have g_RESTART : GvL ⟨P, w, gx K mg, base, 3⟩ "RESTART" (.str [114, 101, 115, 116, 97, 114, 116]) := T.g_RESTART
    have fl0_0 : FldL ⟨P, w, gx K mg, base, 3⟩ 0 0 := by obtain ⟨p, s1⟩ := T.fl0_0; exact fld_sl (t := ⟨P, w, gx K mg, base, 3⟩) (by decide) T.mc0 rfl T.sc0 s1 rfl
    have fl1_1 : FldL ⟨P, w, gx K mg, base, 3⟩ 1 1 := by obtain ⟨p, s1⟩ := T.fl1_1; exact fld_sl (t := ⟨P, w, gx K mg, base, 3⟩) (by decide) T.mc1 rfl T.sc1 s1 rfl
    have fl1_2 : FldL ⟨P, w, gx K mg, base, 3⟩ 1 2 := by obtain ⟨p, s1⟩ := T.fl1_2; exact fld_sl (t := ⟨P, w, gx K mg, base, 3⟩) (by decide) T.mc1 rfl T.sc1 s1 rfl
    have f__law_give : FnL ⟨P, w, gx K mg, base, 3⟩ "_law_give" F__law_give := fn__law_give T (by decide)
    simp only [ir__law_step, needSs, needA, needB, needO, needX, needS, needT, nd_Xp_v, nd_Xo_v, nd_Xp_c, nd_Xp_g, nd_Xp_neg, nd_Xp_bin, nd_Xp_cmp, nd_Xt_cmp, nd_Xt_e, nd_Xt_not, nd_Xt_and, nd_Xt_or, nd_Xp_and, nd_Xp_or, nd_Xp_not, nd_Xp_ite, nd_Xp_chain, nd_Xt_chain, nd_Xp_ix, nd_Xp_sl, nd_Xp_tup, nd_Xp_fz, nd_Xp_hp, nd_Xn_lst, nd_Xp_call, nd_Xp_bi, nd_Xn_bi, nd_Xp_isi, nd_Ib_seq, nd_Ib_r1, nd_Ib_r2, nd_Xn_lc, nd_Sm_asg, nd_Sm_asgO, nd_Sm_asgLc, nd_Sm_asgOLc, nd_Sm_ex, nd_Sm_ret, nd_Sm_retN, nd_Sm_pass, nd_Sm_brk, nd_Sm_cont, nd_Sm_nev, nd_Sm_doc, nd_Sm_ife, nd_Sm_for_, nd_Sm_whl, nd_Sm_par, nd_Sm_app, nd_Xp_app, nd_Sm_setO, nd_Sm_setH, nd_Xp_at, nd_Xp_prop, nd_Xp_mc, nd_Sm_setA, nd_Xp_mkF, nd_Xp_mkH, nd_Xp_mul, nd_Xn_rep, nd_Xp_tupS, nd_Xn_lstS, nd_Ib_en, nd_Ib_zip2, nd_Ib_zip3, nd_Sm_tryN, nd_Xn_add, nd_Xp_lenO, nd_Xp_tzip, nd_Xn_sortK, nd_o, nd_al, nd_ar, biName, bnName, kdName, true_and, and_true]
    try exact trivial
    all_goals (repeat' (with_reducible apply And.intro))
    all_goals first | with_reducible assumption | exact trivial
  exact FnL.pure (gk_gx K mg) (DefAt.fnm (gk_gx K mg) (G := gx K mg) T.d__law_step sc__law_step ok__law_step nd (fun _ _ _ _ _ _ us hl => match us, hl with | [_, _, _], _ => rfl) hj)
theorem fn__law_events (T : Txt K mg C0 C1) (hj : 3 ≤ j) : FnL ⟨P, w, gx K mg, base, j⟩ "_law_events" F__law_events := by
  have nd : needSs ir__law_events ⟨P, w, gx K mg, base, 0⟩ := by
    have b_all : BtL ⟨P, w, gx K mg, base, 0⟩ "all" := T.b_all
    have b_bool : BtL ⟨P, w, gx K mg, base, 0⟩ "bool" := T.b_bool
    have b_enumerate : BtL ⟨P, w, gx K mg, base, 0⟩ "enumerate" := T.b_enumerate
    have b_int : BtL ⟨P, w, gx K mg, base, 0⟩ "int" := T.b_int
    have b_isinstance : BtL ⟨P, w, gx K mg, base, 0⟩ "isinstance" := T.b_isinstance
    have b_len : BtL ⟨P, w, gx K mg, base, 0⟩ "len" := T.b_len
    have b_max : BtL ⟨P, w, gx K mg, base, 0⟩ "max" := T.b_max
    have b_min : BtL ⟨P, w, gx K mg, base, 0⟩ "min" := T.b_min
    have b_range : BtL ⟨P, w, gx K mg, base, 0⟩ "range" := T.b_range
    have b_sorted : BtL ⟨P, w, gx K mg, base, 0⟩ "sorted" := T.b_sorted
    have b_tuple : BtL ⟨P, w, gx K mg, base, 0⟩ "tuple" := T.b_tuple
    have b_zip : BtL ⟨P, w, gx K mg, base, 0⟩ "zip" := T.b_zip
    have g_PARTS : GvL ⟨P, w, gx K mg, base, 0⟩ "PARTS" (.tup [(.str [111, 110, 95, 98, 97, 99, 107]), (.str [111, 110, 95, 102, 117, 108, 108]), (.str [111, 110, 95, 114, 101, 115, 116, 97, 114, 116])]) := T.g_PARTS
    have g_BACK_WORDS : GvL ⟨P, w, gx K mg, base, 0⟩ "BACK_WORDS" (.tup [(.str [116, 114, 117, 115, 116]), (.str [104, 111, 108, 100]), (.str [114, 101, 102, 117, 115, 101])]) := T.g_BACK_WORDS
    have g_FULL_WORDS : GvL ⟨P, w, gx K mg, base, 0⟩ "FULL_WORDS" (.tup [(.str [119, 114, 97, 112]), (.str [98, 111, 114, 114, 111, 119]), (.str [114, 101, 102, 117, 115, 101])]) := T.g_FULL_WORDS
    have g_RESTART_WORDS : GvL ⟨P, w, gx K mg, base, 0⟩ "RESTART_WORDS" (.tup [(.str [102, 111, 114, 103, 101, 116]), (.str [115, 97, 118, 101, 100]), (.str [119, 97, 105, 116])]) := T.g_RESTART_WORDS
    have g_MAX_MAKERS : GvL ⟨P, w, gx K mg, base, 0⟩ "MAX_MAKERS" (.int 2) := T.g_MAX_MAKERS
    have g_MAX_MARK : GvL ⟨P, w, gx K mg, base, 0⟩ "MAX_MARK" (.int 3) := T.g_MAX_MARK
    have g_FRESH : GvL ⟨P, w, gx K mg, base, 0⟩ "FRESH" (.tup [(.int 0), (.int (-1)), (.int 0), (.int (-1))]) := T.g_FRESH
    have g_NONE : GvL ⟨P, w, gx K mg, base, 0⟩ "NONE" (.int (-1)) := T.g_NONE
    have g_CLOCK : GvL ⟨P, w, gx K mg, base, 0⟩ "CLOCK" (.str [99, 108, 111, 99, 107]) := T.g_CLOCK
    have g_GIVE : GvL ⟨P, w, gx K mg, base, 0⟩ "GIVE" (.str [103, 105, 118, 101]) := T.g_GIVE
    have g_RESTART : GvL ⟨P, w, gx K mg, base, 0⟩ "RESTART" (.str [114, 101, 115, 116, 97, 114, 116]) := T.g_RESTART
    have fl0_0 : FldL ⟨P, w, gx K mg, base, 0⟩ 0 0 := by obtain ⟨p, s1⟩ := T.fl0_0; exact fld_sl (t := ⟨P, w, gx K mg, base, 0⟩) (by decide) T.mc0 rfl T.sc0 s1 rfl
    have fl1_1 : FldL ⟨P, w, gx K mg, base, 0⟩ 1 1 := by obtain ⟨p, s1⟩ := T.fl1_1; exact fld_sl (t := ⟨P, w, gx K mg, base, 0⟩) (by decide) T.mc1 rfl T.sc1 s1 rfl
    have fl1_2 : FldL ⟨P, w, gx K mg, base, 0⟩ 1 2 := by obtain ⟨p, s1⟩ := T.fl1_2; exact fld_sl (t := ⟨P, w, gx K mg, base, 0⟩) (by decide) T.mc1 rfl T.sc1 s1 rfl
    simp only [ir__law_events, needSs, needA, needB, needO, needX, needS, needT, nd_Xp_v, nd_Xo_v, nd_Xp_c, nd_Xp_g, nd_Xp_neg, nd_Xp_bin, nd_Xp_cmp, nd_Xt_cmp, nd_Xt_e, nd_Xt_not, nd_Xt_and, nd_Xt_or, nd_Xp_and, nd_Xp_or, nd_Xp_not, nd_Xp_ite, nd_Xp_chain, nd_Xt_chain, nd_Xp_ix, nd_Xp_sl, nd_Xp_tup, nd_Xp_fz, nd_Xp_hp, nd_Xn_lst, nd_Xp_call, nd_Xp_bi, nd_Xn_bi, nd_Xp_isi, nd_Ib_seq, nd_Ib_r1, nd_Ib_r2, nd_Xn_lc, nd_Sm_asg, nd_Sm_asgO, nd_Sm_asgLc, nd_Sm_asgOLc, nd_Sm_ex, nd_Sm_ret, nd_Sm_retN, nd_Sm_pass, nd_Sm_brk, nd_Sm_cont, nd_Sm_nev, nd_Sm_doc, nd_Sm_ife, nd_Sm_for_, nd_Sm_whl, nd_Sm_par, nd_Sm_app, nd_Xp_app, nd_Sm_setO, nd_Sm_setH, nd_Xp_at, nd_Xp_prop, nd_Xp_mc, nd_Sm_setA, nd_Xp_mkF, nd_Xp_mkH, nd_Xp_mul, nd_Xn_rep, nd_Xp_tupS, nd_Xn_lstS, nd_Ib_en, nd_Ib_zip2, nd_Ib_zip3, nd_Sm_tryN, nd_Xn_add, nd_Xp_lenO, nd_Xp_tzip, nd_Xn_sortK, nd_o, nd_al, nd_ar, biName, bnName, kdName, true_and, and_true]
    try exact trivial
    all_goals (repeat' (with_reducible apply And.intro))
    all_goals first | with_reducible assumption | exact trivial
  exact FnL.pure (gk_gx K mg) (DefAt.fnm (gk_gx K mg) (G := gx K mg) T.d__law_events sc__law_events ok__law_events nd (fun _ _ _ _ _ _ us hl => match us, hl with | [_, _], _ => rfl) hj)
theorem fn__law_begin (T : Txt K mg C0 C1) (hj : 3 ≤ j) : FnL ⟨P, w, gx K mg, base, j⟩ "_law_begin" F__law_begin := by
  have nd : needSs ir__law_begin ⟨P, w, gx K mg, base, 0⟩ := by
    have b_all : BtL ⟨P, w, gx K mg, base, 0⟩ "all" := T.b_all
    have b_bool : BtL ⟨P, w, gx K mg, base, 0⟩ "bool" := T.b_bool
    have b_enumerate : BtL ⟨P, w, gx K mg, base, 0⟩ "enumerate" := T.b_enumerate
    have b_int : BtL ⟨P, w, gx K mg, base, 0⟩ "int" := T.b_int
    have b_isinstance : BtL ⟨P, w, gx K mg, base, 0⟩ "isinstance" := T.b_isinstance
    have b_len : BtL ⟨P, w, gx K mg, base, 0⟩ "len" := T.b_len
    have b_max : BtL ⟨P, w, gx K mg, base, 0⟩ "max" := T.b_max
    have b_min : BtL ⟨P, w, gx K mg, base, 0⟩ "min" := T.b_min
    have b_range : BtL ⟨P, w, gx K mg, base, 0⟩ "range" := T.b_range
    have b_sorted : BtL ⟨P, w, gx K mg, base, 0⟩ "sorted" := T.b_sorted
    have b_tuple : BtL ⟨P, w, gx K mg, base, 0⟩ "tuple" := T.b_tuple
    have b_zip : BtL ⟨P, w, gx K mg, base, 0⟩ "zip" := T.b_zip
    have g_PARTS : GvL ⟨P, w, gx K mg, base, 0⟩ "PARTS" (.tup [(.str [111, 110, 95, 98, 97, 99, 107]), (.str [111, 110, 95, 102, 117, 108, 108]), (.str [111, 110, 95, 114, 101, 115, 116, 97, 114, 116])]) := T.g_PARTS
    have g_BACK_WORDS : GvL ⟨P, w, gx K mg, base, 0⟩ "BACK_WORDS" (.tup [(.str [116, 114, 117, 115, 116]), (.str [104, 111, 108, 100]), (.str [114, 101, 102, 117, 115, 101])]) := T.g_BACK_WORDS
    have g_FULL_WORDS : GvL ⟨P, w, gx K mg, base, 0⟩ "FULL_WORDS" (.tup [(.str [119, 114, 97, 112]), (.str [98, 111, 114, 114, 111, 119]), (.str [114, 101, 102, 117, 115, 101])]) := T.g_FULL_WORDS
    have g_RESTART_WORDS : GvL ⟨P, w, gx K mg, base, 0⟩ "RESTART_WORDS" (.tup [(.str [102, 111, 114, 103, 101, 116]), (.str [115, 97, 118, 101, 100]), (.str [119, 97, 105, 116])]) := T.g_RESTART_WORDS
    have g_MAX_MAKERS : GvL ⟨P, w, gx K mg, base, 0⟩ "MAX_MAKERS" (.int 2) := T.g_MAX_MAKERS
    have g_MAX_MARK : GvL ⟨P, w, gx K mg, base, 0⟩ "MAX_MARK" (.int 3) := T.g_MAX_MARK
    have g_FRESH : GvL ⟨P, w, gx K mg, base, 0⟩ "FRESH" (.tup [(.int 0), (.int (-1)), (.int 0), (.int (-1))]) := T.g_FRESH
    have g_NONE : GvL ⟨P, w, gx K mg, base, 0⟩ "NONE" (.int (-1)) := T.g_NONE
    have g_CLOCK : GvL ⟨P, w, gx K mg, base, 0⟩ "CLOCK" (.str [99, 108, 111, 99, 107]) := T.g_CLOCK
    have g_GIVE : GvL ⟨P, w, gx K mg, base, 0⟩ "GIVE" (.str [103, 105, 118, 101]) := T.g_GIVE
    have g_RESTART : GvL ⟨P, w, gx K mg, base, 0⟩ "RESTART" (.str [114, 101, 115, 116, 97, 114, 116]) := T.g_RESTART
    have fl0_0 : FldL ⟨P, w, gx K mg, base, 0⟩ 0 0 := by obtain ⟨p, s1⟩ := T.fl0_0; exact fld_sl (t := ⟨P, w, gx K mg, base, 0⟩) (by decide) T.mc0 rfl T.sc0 s1 rfl
    have fl1_1 : FldL ⟨P, w, gx K mg, base, 0⟩ 1 1 := by obtain ⟨p, s1⟩ := T.fl1_1; exact fld_sl (t := ⟨P, w, gx K mg, base, 0⟩) (by decide) T.mc1 rfl T.sc1 s1 rfl
    have fl1_2 : FldL ⟨P, w, gx K mg, base, 0⟩ 1 2 := by obtain ⟨p, s1⟩ := T.fl1_2; exact fld_sl (t := ⟨P, w, gx K mg, base, 0⟩) (by decide) T.mc1 rfl T.sc1 s1 rfl
    simp only [ir__law_begin, needSs, needA, needB, needO, needX, needS, needT, nd_Xp_v, nd_Xo_v, nd_Xp_c, nd_Xp_g, nd_Xp_neg, nd_Xp_bin, nd_Xp_cmp, nd_Xt_cmp, nd_Xt_e, nd_Xt_not, nd_Xt_and, nd_Xt_or, nd_Xp_and, nd_Xp_or, nd_Xp_not, nd_Xp_ite, nd_Xp_chain, nd_Xt_chain, nd_Xp_ix, nd_Xp_sl, nd_Xp_tup, nd_Xp_fz, nd_Xp_hp, nd_Xn_lst, nd_Xp_call, nd_Xp_bi, nd_Xn_bi, nd_Xp_isi, nd_Ib_seq, nd_Ib_r1, nd_Ib_r2, nd_Xn_lc, nd_Sm_asg, nd_Sm_asgO, nd_Sm_asgLc, nd_Sm_asgOLc, nd_Sm_ex, nd_Sm_ret, nd_Sm_retN, nd_Sm_pass, nd_Sm_brk, nd_Sm_cont, nd_Sm_nev, nd_Sm_doc, nd_Sm_ife, nd_Sm_for_, nd_Sm_whl, nd_Sm_par, nd_Sm_app, nd_Xp_app, nd_Sm_setO, nd_Sm_setH, nd_Xp_at, nd_Xp_prop, nd_Xp_mc, nd_Sm_setA, nd_Xp_mkF, nd_Xp_mkH, nd_Xp_mul, nd_Xn_rep, nd_Xp_tupS, nd_Xn_lstS, nd_Ib_en, nd_Ib_zip2, nd_Ib_zip3, nd_Sm_tryN, nd_Xn_add, nd_Xp_lenO, nd_Xp_tzip, nd_Xn_sortK, nd_o, nd_al, nd_ar, biName, bnName, kdName, true_and, and_true]
    try exact trivial
    all_goals (repeat' (with_reducible apply And.intro))
    all_goals first | with_reducible assumption | exact trivial
  exact FnL.pure (gk_gx K mg) (DefAt.fnm (gk_gx K mg) (G := gx K mg) T.d__law_begin sc__law_begin ok__law_begin nd (fun _ _ _ _ _ _ us hl => match us, hl with | [_], _ => rfl) hj)
theorem fn__law_history (T : Txt K mg C0 C1) (hj : 9 ≤ j) : FnL ⟨P, w, gx K mg, base, j⟩ "_law_history" F__law_history := by
  have nd : needSs ir__law_history ⟨P, w, gx K mg, base, 6⟩ := by
    have b_all : BtL ⟨P, w, gx K mg, base, 6⟩ "all" := T.b_all
    have b_bool : BtL ⟨P, w, gx K mg, base, 6⟩ "bool" := T.b_bool
    have b_enumerate : BtL ⟨P, w, gx K mg, base, 6⟩ "enumerate" := T.b_enumerate
    have b_int : BtL ⟨P, w, gx K mg, base, 6⟩ "int" := T.b_int
    have b_isinstance : BtL ⟨P, w, gx K mg, base, 6⟩ "isinstance" := T.b_isinstance
    have b_len : BtL ⟨P, w, gx K mg, base, 6⟩ "len" := T.b_len
    have b_max : BtL ⟨P, w, gx K mg, base, 6⟩ "max" := T.b_max
    have b_min : BtL ⟨P, w, gx K mg, base, 6⟩ "min" := T.b_min
    have b_range : BtL ⟨P, w, gx K mg, base, 6⟩ "range" := T.b_range
    have b_sorted : BtL ⟨P, w, gx K mg, base, 6⟩ "sorted" := T.b_sorted
    have b_tuple : BtL ⟨P, w, gx K mg, base, 6⟩ "tuple" := T.b_tuple
    have b_zip : BtL ⟨P, w, gx K mg, base, 6⟩ "zip" := T.b_zip
    have g_PARTS : GvL ⟨P, w, gx K mg, base, 6⟩ "PARTS" (.tup [(.str [111, 110, 95, 98, 97, 99, 107]), (.str [111, 110, 95, 102, 117, 108, 108]), (.str [111, 110, 95, 114, 101, 115, 116, 97, 114, 116])]) := T.g_PARTS
    have g_BACK_WORDS : GvL ⟨P, w, gx K mg, base, 6⟩ "BACK_WORDS" (.tup [(.str [116, 114, 117, 115, 116]), (.str [104, 111, 108, 100]), (.str [114, 101, 102, 117, 115, 101])]) := T.g_BACK_WORDS
    have g_FULL_WORDS : GvL ⟨P, w, gx K mg, base, 6⟩ "FULL_WORDS" (.tup [(.str [119, 114, 97, 112]), (.str [98, 111, 114, 114, 111, 119]), (.str [114, 101, 102, 117, 115, 101])]) := T.g_FULL_WORDS
    have g_RESTART_WORDS : GvL ⟨P, w, gx K mg, base, 6⟩ "RESTART_WORDS" (.tup [(.str [102, 111, 114, 103, 101, 116]), (.str [115, 97, 118, 101, 100]), (.str [119, 97, 105, 116])]) := T.g_RESTART_WORDS
    have g_MAX_MAKERS : GvL ⟨P, w, gx K mg, base, 6⟩ "MAX_MAKERS" (.int 2) := T.g_MAX_MAKERS
    have g_MAX_MARK : GvL ⟨P, w, gx K mg, base, 6⟩ "MAX_MARK" (.int 3) := T.g_MAX_MARK
    have g_FRESH : GvL ⟨P, w, gx K mg, base, 6⟩ "FRESH" (.tup [(.int 0), (.int (-1)), (.int 0), (.int (-1))]) := T.g_FRESH
    have g_NONE : GvL ⟨P, w, gx K mg, base, 6⟩ "NONE" (.int (-1)) := T.g_NONE
    have g_CLOCK : GvL ⟨P, w, gx K mg, base, 6⟩ "CLOCK" (.str [99, 108, 111, 99, 107]) := T.g_CLOCK
    have g_GIVE : GvL ⟨P, w, gx K mg, base, 6⟩ "GIVE" (.str [103, 105, 118, 101]) := T.g_GIVE
    have g_RESTART : GvL ⟨P, w, gx K mg, base, 6⟩ "RESTART" (.str [114, 101, 115, 116, 97, 114, 116]) := T.g_RESTART
    have fl0_0 : FldL ⟨P, w, gx K mg, base, 6⟩ 0 0 := by obtain ⟨p, s1⟩ := T.fl0_0; exact fld_sl (t := ⟨P, w, gx K mg, base, 6⟩) (by decide) T.mc0 rfl T.sc0 s1 rfl
    have fl1_1 : FldL ⟨P, w, gx K mg, base, 6⟩ 1 1 := by obtain ⟨p, s1⟩ := T.fl1_1; exact fld_sl (t := ⟨P, w, gx K mg, base, 6⟩) (by decide) T.mc1 rfl T.sc1 s1 rfl
    have fl1_2 : FldL ⟨P, w, gx K mg, base, 6⟩ 1 2 := by obtain ⟨p, s1⟩ := T.fl1_2; exact fld_sl (t := ⟨P, w, gx K mg, base, 6⟩) (by decide) T.mc1 rfl T.sc1 s1 rfl
    have f__law_begin : FnL ⟨P, w, gx K mg, base, 6⟩ "_law_begin" F__law_begin := fn__law_begin T (by decide)
    have f__law_taken : FnL ⟨P, w, gx K mg, base, 6⟩ "_law_taken" F__law_taken := fn__law_taken T (by decide)
    have f__law_events : FnL ⟨P, w, gx K mg, base, 6⟩ "_law_events" F__law_events := fn__law_events T (by decide)
    have f__law_pick : FnL ⟨P, w, gx K mg, base, 6⟩ "_law_pick" F__law_pick := fn__law_pick T (by decide)
    have f__law_step : FnL ⟨P, w, gx K mg, base, 6⟩ "_law_step" F__law_step := fn__law_step T (by decide)
    simp only [ir__law_history, needSs, needA, needB, needO, needX, needS, needT, nd_Xp_v, nd_Xo_v, nd_Xp_c, nd_Xp_g, nd_Xp_neg, nd_Xp_bin, nd_Xp_cmp, nd_Xt_cmp, nd_Xt_e, nd_Xt_not, nd_Xt_and, nd_Xt_or, nd_Xp_and, nd_Xp_or, nd_Xp_not, nd_Xp_ite, nd_Xp_chain, nd_Xt_chain, nd_Xp_ix, nd_Xp_sl, nd_Xp_tup, nd_Xp_fz, nd_Xp_hp, nd_Xn_lst, nd_Xp_call, nd_Xp_bi, nd_Xn_bi, nd_Xp_isi, nd_Ib_seq, nd_Ib_r1, nd_Ib_r2, nd_Xn_lc, nd_Sm_asg, nd_Sm_asgO, nd_Sm_asgLc, nd_Sm_asgOLc, nd_Sm_ex, nd_Sm_ret, nd_Sm_retN, nd_Sm_pass, nd_Sm_brk, nd_Sm_cont, nd_Sm_nev, nd_Sm_doc, nd_Sm_ife, nd_Sm_for_, nd_Sm_whl, nd_Sm_par, nd_Sm_app, nd_Xp_app, nd_Sm_setO, nd_Sm_setH, nd_Xp_at, nd_Xp_prop, nd_Xp_mc, nd_Sm_setA, nd_Xp_mkF, nd_Xp_mkH, nd_Xp_mul, nd_Xn_rep, nd_Xp_tupS, nd_Xn_lstS, nd_Ib_en, nd_Ib_zip2, nd_Ib_zip3, nd_Sm_tryN, nd_Xn_add, nd_Xp_lenO, nd_Xp_tzip, nd_Xn_sortK, nd_o, nd_al, nd_ar, biName, bnName, kdName, true_and, and_true]
    try exact trivial
    all_goals (repeat' (with_reducible apply And.intro))
    all_goals first | with_reducible assumption | exact trivial
  exact FnL.row (gk_gx K mg) (DefAt.fnm (gk_gx K mg) (G := gx K mg) T.d__law_history sc__law_history ok__law_history nd (fun _ _ _ _ _ _ us hl => match us, hl with | [_, _, _], _ => rfl) hj)
theorem fn__law_any (T : Txt K mg C0 C1) (hj : 6 ≤ j) : FnL ⟨P, w, gx K mg, base, j⟩ "_law_any" F__law_any := by
  have nd : needSs ir__law_any ⟨P, w, gx K mg, base, 3⟩ := by
    have b_all : BtL ⟨P, w, gx K mg, base, 3⟩ "all" := T.b_all
    have b_bool : BtL ⟨P, w, gx K mg, base, 3⟩ "bool" := T.b_bool
    have b_enumerate : BtL ⟨P, w, gx K mg, base, 3⟩ "enumerate" := T.b_enumerate
    have b_int : BtL ⟨P, w, gx K mg, base, 3⟩ "int" := T.b_int
    have b_isinstance : BtL ⟨P, w, gx K mg, base, 3⟩ "isinstance" := T.b_isinstance
    have b_len : BtL ⟨P, w, gx K mg, base, 3⟩ "len" := T.b_len
    have b_max : BtL ⟨P, w, gx K mg, base, 3⟩ "max" := T.b_max
    have b_min : BtL ⟨P, w, gx K mg, base, 3⟩ "min" := T.b_min
    have b_range : BtL ⟨P, w, gx K mg, base, 3⟩ "range" := T.b_range
    have b_sorted : BtL ⟨P, w, gx K mg, base, 3⟩ "sorted" := T.b_sorted
    have b_tuple : BtL ⟨P, w, gx K mg, base, 3⟩ "tuple" := T.b_tuple
    have b_zip : BtL ⟨P, w, gx K mg, base, 3⟩ "zip" := T.b_zip
    have g_PARTS : GvL ⟨P, w, gx K mg, base, 3⟩ "PARTS" (.tup [(.str [111, 110, 95, 98, 97, 99, 107]), (.str [111, 110, 95, 102, 117, 108, 108]), (.str [111, 110, 95, 114, 101, 115, 116, 97, 114, 116])]) := T.g_PARTS
    have g_BACK_WORDS : GvL ⟨P, w, gx K mg, base, 3⟩ "BACK_WORDS" (.tup [(.str [116, 114, 117, 115, 116]), (.str [104, 111, 108, 100]), (.str [114, 101, 102, 117, 115, 101])]) := T.g_BACK_WORDS
    have g_FULL_WORDS : GvL ⟨P, w, gx K mg, base, 3⟩ "FULL_WORDS" (.tup [(.str [119, 114, 97, 112]), (.str [98, 111, 114, 114, 111, 119]), (.str [114, 101, 102, 117, 115, 101])]) := T.g_FULL_WORDS
    have g_RESTART_WORDS : GvL ⟨P, w, gx K mg, base, 3⟩ "RESTART_WORDS" (.tup [(.str [102, 111, 114, 103, 101, 116]), (.str [115, 97, 118, 101, 100]), (.str [119, 97, 105, 116])]) := T.g_RESTART_WORDS
    have g_MAX_MAKERS : GvL ⟨P, w, gx K mg, base, 3⟩ "MAX_MAKERS" (.int 2) := T.g_MAX_MAKERS
    have g_MAX_MARK : GvL ⟨P, w, gx K mg, base, 3⟩ "MAX_MARK" (.int 3) := T.g_MAX_MARK
    have g_FRESH : GvL ⟨P, w, gx K mg, base, 3⟩ "FRESH" (.tup [(.int 0), (.int (-1)), (.int 0), (.int (-1))]) := T.g_FRESH
    have g_NONE : GvL ⟨P, w, gx K mg, base, 3⟩ "NONE" (.int (-1)) := T.g_NONE
    have g_CLOCK : GvL ⟨P, w, gx K mg, base, 3⟩ "CLOCK" (.str [99, 108, 111, 99, 107]) := T.g_CLOCK
    have g_GIVE : GvL ⟨P, w, gx K mg, base, 3⟩ "GIVE" (.str [103, 105, 118, 101]) := T.g_GIVE
    have g_RESTART : GvL ⟨P, w, gx K mg, base, 3⟩ "RESTART" (.str [114, 101, 115, 116, 97, 114, 116]) := T.g_RESTART
    have fl0_0 : FldL ⟨P, w, gx K mg, base, 3⟩ 0 0 := by obtain ⟨p, s1⟩ := T.fl0_0; exact fld_sl (t := ⟨P, w, gx K mg, base, 3⟩) (by decide) T.mc0 rfl T.sc0 s1 rfl
    have fl1_1 : FldL ⟨P, w, gx K mg, base, 3⟩ 1 1 := by obtain ⟨p, s1⟩ := T.fl1_1; exact fld_sl (t := ⟨P, w, gx K mg, base, 3⟩) (by decide) T.mc1 rfl T.sc1 s1 rfl
    have fl1_2 : FldL ⟨P, w, gx K mg, base, 3⟩ 1 2 := by obtain ⟨p, s1⟩ := T.fl1_2; exact fld_sl (t := ⟨P, w, gx K mg, base, 3⟩) (by decide) T.mc1 rfl T.sc1 s1 rfl
    have f__law_taken : FnL ⟨P, w, gx K mg, base, 3⟩ "_law_taken" F__law_taken := fn__law_taken T (by decide)
    simp only [ir__law_any, needSs, needA, needB, needO, needX, needS, needT, nd_Xp_v, nd_Xo_v, nd_Xp_c, nd_Xp_g, nd_Xp_neg, nd_Xp_bin, nd_Xp_cmp, nd_Xt_cmp, nd_Xt_e, nd_Xt_not, nd_Xt_and, nd_Xt_or, nd_Xp_and, nd_Xp_or, nd_Xp_not, nd_Xp_ite, nd_Xp_chain, nd_Xt_chain, nd_Xp_ix, nd_Xp_sl, nd_Xp_tup, nd_Xp_fz, nd_Xp_hp, nd_Xn_lst, nd_Xp_call, nd_Xp_bi, nd_Xn_bi, nd_Xp_isi, nd_Ib_seq, nd_Ib_r1, nd_Ib_r2, nd_Xn_lc, nd_Sm_asg, nd_Sm_asgO, nd_Sm_asgLc, nd_Sm_asgOLc, nd_Sm_ex, nd_Sm_ret, nd_Sm_retN, nd_Sm_pass, nd_Sm_brk, nd_Sm_cont, nd_Sm_nev, nd_Sm_doc, nd_Sm_ife, nd_Sm_for_, nd_Sm_whl, nd_Sm_par, nd_Sm_app, nd_Xp_app, nd_Sm_setO, nd_Sm_setH, nd_Xp_at, nd_Xp_prop, nd_Xp_mc, nd_Sm_setA, nd_Xp_mkF, nd_Xp_mkH, nd_Xp_mul, nd_Xn_rep, nd_Xp_tupS, nd_Xn_lstS, nd_Ib_en, nd_Ib_zip2, nd_Ib_zip3, nd_Sm_tryN, nd_Xn_add, nd_Xp_lenO, nd_Xp_tzip, nd_Xn_sortK, nd_o, nd_al, nd_ar, biName, bnName, kdName, true_and, and_true]
    try exact trivial
    all_goals (repeat' (with_reducible apply And.intro))
    all_goals first | with_reducible assumption | exact trivial
  exact FnL.row (gk_gx K mg) (DefAt.fnm (gk_gx K mg) (G := gx K mg) T.d__law_any sc__law_any ok__law_any nd (fun _ _ _ _ _ _ us hl => match us, hl with | [_, _], _ => rfl) hj)
theorem ok_law_fn (T : Txt K mg C0 C1) {a : Addr} {fd : FuncData} (F : Fun K "law" "law" st_law a fd) : FnOk P w K mg base (L2.CX P w) 24 a fd P_law (lift (gx K mg) F_law) := by
  have nd : needSs ir_law ⟨P, w, gx K mg, base, 21⟩ := by
    have b_all : BtL ⟨P, w, gx K mg, base, 21⟩ "all" := T.b_all
    have b_bool : BtL ⟨P, w, gx K mg, base, 21⟩ "bool" := T.b_bool
    have b_enumerate : BtL ⟨P, w, gx K mg, base, 21⟩ "enumerate" := T.b_enumerate
    have b_int : BtL ⟨P, w, gx K mg, base, 21⟩ "int" := T.b_int
    have b_isinstance : BtL ⟨P, w, gx K mg, base, 21⟩ "isinstance" := T.b_isinstance
    have b_len : BtL ⟨P, w, gx K mg, base, 21⟩ "len" := T.b_len
    have b_max : BtL ⟨P, w, gx K mg, base, 21⟩ "max" := T.b_max
    have b_min : BtL ⟨P, w, gx K mg, base, 21⟩ "min" := T.b_min
    have b_range : BtL ⟨P, w, gx K mg, base, 21⟩ "range" := T.b_range
    have b_sorted : BtL ⟨P, w, gx K mg, base, 21⟩ "sorted" := T.b_sorted
    have b_tuple : BtL ⟨P, w, gx K mg, base, 21⟩ "tuple" := T.b_tuple
    have b_zip : BtL ⟨P, w, gx K mg, base, 21⟩ "zip" := T.b_zip
    have g_PARTS : GvL ⟨P, w, gx K mg, base, 21⟩ "PARTS" (.tup [(.str [111, 110, 95, 98, 97, 99, 107]), (.str [111, 110, 95, 102, 117, 108, 108]), (.str [111, 110, 95, 114, 101, 115, 116, 97, 114, 116])]) := T.g_PARTS
    have g_BACK_WORDS : GvL ⟨P, w, gx K mg, base, 21⟩ "BACK_WORDS" (.tup [(.str [116, 114, 117, 115, 116]), (.str [104, 111, 108, 100]), (.str [114, 101, 102, 117, 115, 101])]) := T.g_BACK_WORDS
    have g_FULL_WORDS : GvL ⟨P, w, gx K mg, base, 21⟩ "FULL_WORDS" (.tup [(.str [119, 114, 97, 112]), (.str [98, 111, 114, 114, 111, 119]), (.str [114, 101, 102, 117, 115, 101])]) := T.g_FULL_WORDS
    have g_RESTART_WORDS : GvL ⟨P, w, gx K mg, base, 21⟩ "RESTART_WORDS" (.tup [(.str [102, 111, 114, 103, 101, 116]), (.str [115, 97, 118, 101, 100]), (.str [119, 97, 105, 116])]) := T.g_RESTART_WORDS
    have g_MAX_MAKERS : GvL ⟨P, w, gx K mg, base, 21⟩ "MAX_MAKERS" (.int 2) := T.g_MAX_MAKERS
    have g_MAX_MARK : GvL ⟨P, w, gx K mg, base, 21⟩ "MAX_MARK" (.int 3) := T.g_MAX_MARK
    have g_FRESH : GvL ⟨P, w, gx K mg, base, 21⟩ "FRESH" (.tup [(.int 0), (.int (-1)), (.int 0), (.int (-1))]) := T.g_FRESH
    have g_NONE : GvL ⟨P, w, gx K mg, base, 21⟩ "NONE" (.int (-1)) := T.g_NONE
    have g_CLOCK : GvL ⟨P, w, gx K mg, base, 21⟩ "CLOCK" (.str [99, 108, 111, 99, 107]) := T.g_CLOCK
    have g_GIVE : GvL ⟨P, w, gx K mg, base, 21⟩ "GIVE" (.str [103, 105, 118, 101]) := T.g_GIVE
    have g_RESTART : GvL ⟨P, w, gx K mg, base, 21⟩ "RESTART" (.str [114, 101, 115, 116, 97, 114, 116]) := T.g_RESTART
    have fl0_0 : FldL ⟨P, w, gx K mg, base, 21⟩ 0 0 := by obtain ⟨p, s1⟩ := T.fl0_0; exact fld_sl (t := ⟨P, w, gx K mg, base, 21⟩) (by decide) T.mc0 rfl T.sc0 s1 rfl
    have fl1_1 : FldL ⟨P, w, gx K mg, base, 21⟩ 1 1 := by obtain ⟨p, s1⟩ := T.fl1_1; exact fld_sl (t := ⟨P, w, gx K mg, base, 21⟩) (by decide) T.mc1 rfl T.sc1 s1 rfl
    have fl1_2 : FldL ⟨P, w, gx K mg, base, 21⟩ 1 2 := by obtain ⟨p, s1⟩ := T.fl1_2; exact fld_sl (t := ⟨P, w, gx K mg, base, 21⟩) (by decide) T.mc1 rfl T.sc1 s1 rfl
    have f__law_scheme : FnL ⟨P, w, gx K mg, base, 21⟩ "_law_scheme" F__law_scheme := fn__law_scheme T (by decide)
    have f__law_taken : FnL ⟨P, w, gx K mg, base, 21⟩ "_law_taken" F__law_taken := fn__law_taken T (by decide)
    have f__law_setup : FnL ⟨P, w, gx K mg, base, 21⟩ "_law_setup" F__law_setup := fn__law_setup T (by decide)
    have f_begin : FnL ⟨P, w, gx K mg, base, 21⟩ "begin" F_begin := fn_begin T (by decide)
    have f__law_begin : FnL ⟨P, w, gx K mg, base, 21⟩ "_law_begin" F__law_begin := fn__law_begin T (by decide)
    have f__law_history : FnL ⟨P, w, gx K mg, base, 21⟩ "_law_history" F__law_history := fn__law_history T (by decide)
    have f_run : FnL ⟨P, w, gx K mg, base, 21⟩ "run" F_run := fn_run T (by decide)
    have f__law_any : FnL ⟨P, w, gx K mg, base, 21⟩ "_law_any" F__law_any := fn__law_any T (by decide)
    have f__law_events : FnL ⟨P, w, gx K mg, base, 21⟩ "_law_events" F__law_events := fn__law_events T (by decide)
    have f_after : FnL ⟨P, w, gx K mg, base, 21⟩ "after" F_after := fn_after T (by decide)
    have f__law_step : FnL ⟨P, w, gx K mg, base, 21⟩ "_law_step" F__law_step := fn__law_step T (by decide)
    simp only [ir_law, needSs, needA, needB, needO, needX, needS, needT, nd_Xp_v, nd_Xo_v, nd_Xp_c, nd_Xp_g, nd_Xp_neg, nd_Xp_bin, nd_Xp_cmp, nd_Xt_cmp, nd_Xt_e, nd_Xt_not, nd_Xt_and, nd_Xt_or, nd_Xp_and, nd_Xp_or, nd_Xp_not, nd_Xp_ite, nd_Xp_chain, nd_Xt_chain, nd_Xp_ix, nd_Xp_sl, nd_Xp_tup, nd_Xp_fz, nd_Xp_hp, nd_Xn_lst, nd_Xp_call, nd_Xp_bi, nd_Xn_bi, nd_Xp_isi, nd_Ib_seq, nd_Ib_r1, nd_Ib_r2, nd_Xn_lc, nd_Sm_asg, nd_Sm_asgO, nd_Sm_asgLc, nd_Sm_asgOLc, nd_Sm_ex, nd_Sm_ret, nd_Sm_retN, nd_Sm_pass, nd_Sm_brk, nd_Sm_cont, nd_Sm_nev, nd_Sm_doc, nd_Sm_ife, nd_Sm_for_, nd_Sm_whl, nd_Sm_par, nd_Sm_app, nd_Xp_app, nd_Sm_setO, nd_Sm_setH, nd_Xp_at, nd_Xp_prop, nd_Xp_mc, nd_Sm_setA, nd_Xp_mkF, nd_Xp_mkH, nd_Xp_mul, nd_Xn_rep, nd_Xp_tupS, nd_Xn_lstS, nd_Ib_en, nd_Ib_zip2, nd_Ib_zip3, nd_Sm_tryN, nd_Xn_add, nd_Xp_lenO, nd_Xp_tzip, nd_Xn_sortK, nd_o, nd_al, nd_ar, biName, bnName, kdName, true_and, and_true]
    try exact trivial
    all_goals (repeat' (with_reducible apply And.intro))
    all_goals first | with_reducible assumption | exact trivial
  exact (fnok_L (gk_gx K mg) (G := gx K mg) F sc_law ok_law nd).imp fun vs H Q E x => lift_pure (gk_gx K mg) x
end
theorem all_mk {l : PySem.W.OpenLaw} {w : World} {K : PySem.W.Frag} {h : Heap} {mg : Str → Option Value} {fa C0 C1 pf0_0 pf1_1 pf1_2 f0 f1 f2 pp2 f3 pp3 f4 pp4 f5 f6 f7 pp7 f8 pp8 f9 pp9 f10 pp10 f11 pp11 f12 pp12 f13 f14 f15 f16 f17 f18 f19 f20 f21 f22 f23 f24 f25 f26 f27 f28 f29 f30 f31 f32 f33 f34 f35 f36 f37 f38 f39 ga_PARTS ga_BACK_WORDS ga_FULL_WORDS ga_RESTART_WORDS ga_FRESH : Addr} {od0 an0 od1 an1 od2 an2 od3 an3 od4 an4 od5 an5 od6 an6 od7 an7 od8 an8 od9 an9 od10 an10 od11 an11 od12 an12 od13 an13 od14 an14 od15 an15 od16 an16 od17 an17 od18 an18 od19 an19 od20 an20 od21 an21 od22 an22 od23 an23 od24 an24 od25 an25 od26 an26 od27 an27 od28 an28 od29 an29 od30 an30 od31 an31 od32 an32 od33 an33 od34 an34 od35 an35 od36 an36 od37 an37 od38 an38 od39 an39 go_PARTS go_BACK_WORDS go_FULL_WORDS go_RESTART_WORDS go_FRESH : Option Addr} {sl0 sl1 sl2 sl3 sl4 sl5 sl6 sl7 sl8 sl9 sl10 sl11 sl12 sl13 sl14 sl15 sl16 sl17 sl18 sl19 sl20 sl21 sl22 sl23 sl24 sl25 sl26 sl27 sl28 sl29 sl30 sl31 sl32 sl33 sl34 sl35 sl36 sl37 sl38 sl39 gs_PARTS gs_BACK_WORDS gs_FULL_WORDS gs_RESTART_WORDS gs_FRESH : Array (Option Value)} {oc0 kV0 dc0 pm0 cd0 ct0 oc1 kV1 dc1 pm1 cd1 ct1 oc2 kV2 dc2 pm2 cd2 ct2 oc3 kV3 dc3 pm3 cd3 ct3 oc4 kV4 dc4 pm4 cd4 ct4 oc5 kV5 dc5 pm5 cd5 ct5 oc6 kV6 dc6 pm6 cd6 ct6 oc7 kV7 dc7 pm7 cd7 ct7 oc8 kV8 dc8 pm8 cd8 ct8 oc9 kV9 dc9 pm9 cd9 ct9 oc10 kV10 dc10 pm10 cd10 ct10 oc11 kV11 dc11 pm11 cd11 ct11 oc12 kV12 dc12 pm12 cd12 ct12 oc13 kV13 dc13 pm13 cd13 ct13 oc14 kV14 dc14 pm14 cd14 ct14 oc15 kV15 dc15 pm15 cd15 ct15 oc16 kV16 dc16 pm16 cd16 ct16 oc17 kV17 dc17 pm17 cd17 ct17 oc18 kV18 dc18 pm18 cd18 ct18 oc19 kV19 dc19 pm19 cd19 ct19 oc20 kV20 dc20 pm20 cd20 ct20 oc21 kV21 dc21 pm21 cd21 ct21 oc22 kV22 dc22 pm22 cd22 ct22 oc23 kV23 dc23 pm23 cd23 ct23 oc24 kV24 dc24 pm24 cd24 ct24 oc25 kV25 dc25 pm25 cd25 ct25 oc26 kV26 dc26 pm26 cd26 ct26 oc27 kV27 dc27 pm27 cd27 ct27 oc28 kV28 dc28 pm28 cd28 ct28 oc29 kV29 dc29 pm29 cd29 ct29 oc30 kV30 dc30 pm30 cd30 ct30 oc31 kV31 dc31 pm31 cd31 ct31 oc32 kV32 dc32 pm32 cd32 ct32 oc33 kV33 dc33 pm33 cd33 ct33 oc34 kV34 dc34 pm34 cd34 ct34 oc35 kV35 dc35 pm35 cd35 ct35 oc36 kV36 dc36 pm36 cd36 ct36 oc37 kV37 dc37 pm37 cd37 ct37 oc38 kV38 dc38 pm38 cd38 ct38 oc39 kV39 dc39 pm39 cd39 ct39 : Value} {t_PARTS_0 t_PARTS_1 t_PARTS_2 t_BACK_WORDS_0 t_BACK_WORDS_1 t_BACK_WORDS_2 t_FULL_WORDS_0 t_FULL_WORDS_1 t_FULL_WORDS_2 t_RESTART_WORDS_0 t_RESTART_WORDS_1 t_RESTART_WORDS_2 t_MAX_MAKERS t_MAX_MARK t_FRESH_0 t_FRESH_1 t_FRESH_2 t_FRESH_3 t_NONE t_CLOCK t_GIVE t_RESTART : Tok} {re2 re3 re4 re7 re8 re9 re10 re11 re12 : List Value} {gn_PARTS gn_BACK_WORDS gn_FULL_WORDS gn_RESTART_WORDS gn_FRESH : Nat} (X : K.In h) (G : h.Ns mainGlobals mg) (hfa : mg "law" = some (.ref fa))
    (zc0 : PySem.W.nsIn K mainGlobals "Plan" = some (some (.ref C0)))
    (zp0 : PySem.W.plainGet K C0 Str.empty = true)
    (zi0 : PySem.W.isClsIn K C0 = true)
    (zo0 : PySem.W.plainOver K C0 = true)
    (zs0 : PySem.W.findIn K (.ref C0) "__setattr__" = some (some (.builtin "object.__setattr__")))
    (zm0 : PySem.W.makesIn K C0 = true)
    (zk0 : PySem.W.keepIn K (.ref C0) = true)
    (zc1 : PySem.W.nsIn K mainGlobals "Setup" = some (some (.ref C1)))
    (zp1 : PySem.W.plainGet K C1 Str.empty = true)
    (zi1 : PySem.W.isClsIn K C1 = true)
    (zo1 : PySem.W.plainOver K C1 = true)
    (zs1 : PySem.W.findIn K (.ref C1) "__setattr__" = some (some (.builtin "object.__setattr__")))
    (zm1 : PySem.W.makesIn K C1 = true)
    (zk1 : PySem.W.keepIn K (.ref C1) = true)
    (ya0_0 : PySem.W.findIn K (.ref C0) "words" = some (some (.ref pf0_0)))
    (yb0_0 : PySem.W.specialIn K (.ref pf0_0) "__get__" = some (some (.builtin "member_descriptor.__get__")))
    (yc0_0 : PySem.W.takesIn K (.ref pf0_0) = some true)
    (yd0_0 : PySem.W.typeIn K (.ref pf0_0) = some (.type "member_descriptor"))
    (ye0_0 : PySem.W.slotIn K pf0_0 C0 = some 0)
    (ya1_1 : PySem.W.findIn K (.ref C1) "makers" = some (some (.ref pf1_1)))
    (yb1_1 : PySem.W.specialIn K (.ref pf1_1) "__get__" = some (some (.builtin "member_descriptor.__get__")))
    (yc1_1 : PySem.W.takesIn K (.ref pf1_1) = some true)
    (yd1_1 : PySem.W.typeIn K (.ref pf1_1) = some (.type "member_descriptor"))
    (ye1_1 : PySem.W.slotIn K pf1_1 C1 = some 0)
    (ya1_2 : PySem.W.findIn K (.ref C1) "sizes" = some (some (.ref pf1_2)))
    (yb1_2 : PySem.W.specialIn K (.ref pf1_2) "__get__" = some (some (.builtin "member_descriptor.__get__")))
    (yc1_2 : PySem.W.takesIn K (.ref pf1_2) = some true)
    (yd1_2 : PySem.W.typeIn K (.ref pf1_2) = some (.type "member_descriptor"))
    (ye1_2 : PySem.W.slotIn K pf1_2 C1 = some 1)
    (a0 : PySem.W.nsIn K mainGlobals "is_number" = some (some (.ref f0)))
    (l0 : K.lookup f0 = some ⟨oc0, od0, .func (PySem.W.fnOf "is_number" "is_number" (defArgs st_is_number) (defBody st_is_number) (defScope st_is_number) .none kV0 dc0 pm0 an0 cd0 ct0), sl0⟩)
    (c0 : PySem.W.codeIn K cd0 "is_number" = true)
    (k0 : PySem.W.keepIn K (.ref f0) = true)
    (a1 : PySem.W.findIn K (.ref C0) "__init__" = some (some (.ref f1)))
    (i1 : PySem.W.isFn K (.ref f1) = true)
    (l1 : K.lookup f1 = some ⟨oc1, od1, .func (PySem.W.fnOf "__init__" "Plan.__init__" (defArgs st_Plan___init__) (defBody st_Plan___init__) (defScope st_Plan___init__) .none kV1 dc1 pm1 an1 cd1 ct1), sl1⟩)
    (c1 : PySem.W.codeIn K cd1 "Plan.__init__" = true)
    (k1 : PySem.W.keepIn K (.ref f1) = true)
    (a2 : PySem.W.findIn K (.ref C0) "on_back" = some (some (.ref pp2)))
    (u2 : PySem.W.specialIn K (.ref pp2) "__get__" = some (some (.builtin "property.__get__")))
    (v2 : PySem.W.takesIn K (.ref pp2) = some true)
    (x2 : PySem.W.recIn K pp2 "property" = some (.ref f2 :: re2))
    (l2 : K.lookup f2 = some ⟨oc2, od2, .func (PySem.W.fnOf "on_back" "Plan.on_back" (defArgs st_Plan_on_back) (defBody st_Plan_on_back) (defScope st_Plan_on_back) .none kV2 dc2 pm2 an2 cd2 ct2), sl2⟩)
    (c2 : PySem.W.codeIn K cd2 "Plan.on_back" = true)
    (k2 : PySem.W.keepIn K (.ref f2) = true)
    (a3 : PySem.W.findIn K (.ref C0) "on_full" = some (some (.ref pp3)))
    (u3 : PySem.W.specialIn K (.ref pp3) "__get__" = some (some (.builtin "property.__get__")))
    (v3 : PySem.W.takesIn K (.ref pp3) = some true)
    (x3 : PySem.W.recIn K pp3 "property" = some (.ref f3 :: re3))
    (l3 : K.lookup f3 = some ⟨oc3, od3, .func (PySem.W.fnOf "on_full" "Plan.on_full" (defArgs st_Plan_on_full) (defBody st_Plan_on_full) (defScope st_Plan_on_full) .none kV3 dc3 pm3 an3 cd3 ct3), sl3⟩)
    (c3 : PySem.W.codeIn K cd3 "Plan.on_full" = true)
    (k3 : PySem.W.keepIn K (.ref f3) = true)
    (a4 : PySem.W.findIn K (.ref C0) "on_restart" = some (some (.ref pp4)))
    (u4 : PySem.W.specialIn K (.ref pp4) "__get__" = some (some (.builtin "property.__get__")))
    (v4 : PySem.W.takesIn K (.ref pp4) = some true)
    (x4 : PySem.W.recIn K pp4 "property" = some (.ref f4 :: re4))
    (l4 : K.lookup f4 = some ⟨oc4, od4, .func (PySem.W.fnOf "on_restart" "Plan.on_restart" (defArgs st_Plan_on_restart) (defBody st_Plan_on_restart) (defScope st_Plan_on_restart) .none kV4 dc4 pm4 an4 cd4 ct4), sl4⟩)
    (c4 : PySem.W.codeIn K cd4 "Plan.on_restart" = true)
    (k4 : PySem.W.keepIn K (.ref f4) = true)
    (a5 : PySem.W.nsIn K mainGlobals "check_ranges" = some (some (.ref f5)))
    (l5 : K.lookup f5 = some ⟨oc5, od5, .func (PySem.W.fnOf "check_ranges" "check_ranges" (defArgs st_check_ranges) (defBody st_check_ranges) (defScope st_check_ranges) .none kV5 dc5 pm5 an5 cd5 ct5), sl5⟩)
    (c5 : PySem.W.codeIn K cd5 "check_ranges" = true)
    (k5 : PySem.W.keepIn K (.ref f5) = true)
    (a6 : PySem.W.findIn K (.ref C1) "__init__" = some (some (.ref f6)))
    (i6 : PySem.W.isFn K (.ref f6) = true)
    (l6 : K.lookup f6 = some ⟨oc6, od6, .func (PySem.W.fnOf "__init__" "Setup.__init__" (defArgs st_Setup___init__) (defBody st_Setup___init__) (defScope st_Setup___init__) .none kV6 dc6 pm6 an6 cd6 ct6), sl6⟩)
    (c6 : PySem.W.codeIn K cd6 "Setup.__init__" = true)
    (k6 : PySem.W.keepIn K (.ref f6) = true)
    (a7 : PySem.W.findIn K (.ref C1) "plans" = some (some (.ref pp7)))
    (u7 : PySem.W.specialIn K (.ref pp7) "__get__" = some (some (.builtin "property.__get__")))
    (v7 : PySem.W.takesIn K (.ref pp7) = some true)
    (x7 : PySem.W.recIn K pp7 "property" = some (.ref f7 :: re7))
    (l7 : K.lookup f7 = some ⟨oc7, od7, .func (PySem.W.fnOf "plans" "Setup.plans" (defArgs st_Setup_plans) (defBody st_Setup_plans) (defScope st_Setup_plans) .none kV7 dc7 pm7 an7 cd7 ct7), sl7⟩)
    (c7 : PySem.W.codeIn K cd7 "Setup.plans" = true)
    (k7 : PySem.W.keepIn K (.ref f7) = true)
    (a8 : PySem.W.findIn K (.ref C1) "marks" = some (some (.ref pp8)))
    (u8 : PySem.W.specialIn K (.ref pp8) "__get__" = some (some (.builtin "property.__get__")))
    (v8 : PySem.W.takesIn K (.ref pp8) = some true)
    (x8 : PySem.W.recIn K pp8 "property" = some (.ref f8 :: re8))
    (l8 : K.lookup f8 = some ⟨oc8, od8, .func (PySem.W.fnOf "marks" "Setup.marks" (defArgs st_Setup_marks) (defBody st_Setup_marks) (defScope st_Setup_marks) .none kV8 dc8 pm8 an8 cd8 ct8), sl8⟩)
    (c8 : PySem.W.codeIn K cd8 "Setup.marks" = true)
    (k8 : PySem.W.keepIn K (.ref f8) = true)
    (a9 : PySem.W.findIn K (.ref C1) "top" = some (some (.ref pp9)))
    (u9 : PySem.W.specialIn K (.ref pp9) "__get__" = some (some (.builtin "property.__get__")))
    (v9 : PySem.W.takesIn K (.ref pp9) = some true)
    (x9 : PySem.W.recIn K pp9 "property" = some (.ref f9 :: re9))
    (l9 : K.lookup f9 = some ⟨oc9, od9, .func (PySem.W.fnOf "top" "Setup.top" (defArgs st_Setup_top) (defBody st_Setup_top) (defScope st_Setup_top) .none kV9 dc9 pm9 an9 cd9 ct9), sl9⟩)
    (c9 : PySem.W.codeIn K cd9 "Setup.top" = true)
    (k9 : PySem.W.keepIn K (.ref f9) = true)
    (a10 : PySem.W.findIn K (.ref C1) "limit" = some (some (.ref pp10)))
    (u10 : PySem.W.specialIn K (.ref pp10) "__get__" = some (some (.builtin "property.__get__")))
    (v10 : PySem.W.takesIn K (.ref pp10) = some true)
    (x10 : PySem.W.recIn K pp10 "property" = some (.ref f10 :: re10))
    (l10 : K.lookup f10 = some ⟨oc10, od10, .func (PySem.W.fnOf "limit" "Setup.limit" (defArgs st_Setup_limit) (defBody st_Setup_limit) (defScope st_Setup_limit) .none kV10 dc10 pm10 an10 cd10 ct10), sl10⟩)
    (c10 : PySem.W.codeIn K cd10 "Setup.limit" = true)
    (k10 : PySem.W.keepIn K (.ref f10) = true)
    (a11 : PySem.W.findIn K (.ref C1) "back" = some (some (.ref pp11)))
    (u11 : PySem.W.specialIn K (.ref pp11) "__get__" = some (some (.builtin "property.__get__")))
    (v11 : PySem.W.takesIn K (.ref pp11) = some true)
    (x11 : PySem.W.recIn K pp11 "property" = some (.ref f11 :: re11))
    (l11 : K.lookup f11 = some ⟨oc11, od11, .func (PySem.W.fnOf "back" "Setup.back" (defArgs st_Setup_back) (defBody st_Setup_back) (defScope st_Setup_back) .none kV11 dc11 pm11 an11 cd11 ct11), sl11⟩)
    (c11 : PySem.W.codeIn K cd11 "Setup.back" = true)
    (k11 : PySem.W.keepIn K (.ref f11) = true)
    (a12 : PySem.W.findIn K (.ref C1) "ahead" = some (some (.ref pp12)))
    (u12 : PySem.W.specialIn K (.ref pp12) "__get__" = some (some (.builtin "property.__get__")))
    (v12 : PySem.W.takesIn K (.ref pp12) = some true)
    (x12 : PySem.W.recIn K pp12 "property" = some (.ref f12 :: re12))
    (l12 : K.lookup f12 = some ⟨oc12, od12, .func (PySem.W.fnOf "ahead" "Setup.ahead" (defArgs st_Setup_ahead) (defBody st_Setup_ahead) (defScope st_Setup_ahead) .none kV12 dc12 pm12 an12 cd12 ct12), sl12⟩)
    (c12 : PySem.W.codeIn K cd12 "Setup.ahead" = true)
    (k12 : PySem.W.keepIn K (.ref f12) = true)
    (a13 : PySem.W.findIn K (.ref C1) "__len__" = some (some (.ref f13)))
    (i13 : PySem.W.isFn K (.ref f13) = true)
    (l13 : K.lookup f13 = some ⟨oc13, od13, .func (PySem.W.fnOf "__len__" "Setup.__len__" (defArgs st_Setup___len__) (defBody st_Setup___len__) (defScope st_Setup___len__) .none kV13 dc13 pm13 an13 cd13 ct13), sl13⟩)
    (c13 : PySem.W.codeIn K cd13 "Setup.__len__" = true)
    (k13 : PySem.W.keepIn K (.ref f13) = true)
    (a14 : PySem.W.nsIn K mainGlobals "begin" = some (some (.ref f14)))
    (l14 : K.lookup f14 = some ⟨oc14, od14, .func (PySem.W.fnOf "begin" "begin" (defArgs st_begin) (defBody st_begin) (defScope st_begin) .none kV14 dc14 pm14 an14 cd14 ct14), sl14⟩)
    (c14 : PySem.W.codeIn K cd14 "begin" = true)
    (k14 : PySem.W.keepIn K (.ref f14) = true)
    (a15 : PySem.W.nsIn K mainGlobals "is_single" = some (some (.ref f15)))
    (l15 : K.lookup f15 = some ⟨oc15, od15, .func (PySem.W.fnOf "is_single" "is_single" (defArgs st_is_single) (defBody st_is_single) (defScope st_is_single) .none kV15 dc15 pm15 an15 cd15 ct15), sl15⟩)
    (c15 : PySem.W.codeIn K cd15 "is_single" = true)
    (k15 : PySem.W.keepIn K (.ref f15) = true)
    (a16 : PySem.W.nsIn K mainGlobals "check_standing" = some (some (.ref f16)))
    (l16 : K.lookup f16 = some ⟨oc16, od16, .func (PySem.W.fnOf "check_standing" "check_standing" (defArgs st_check_standing) (defBody st_check_standing) (defScope st_check_standing) .none kV16 dc16 pm16 an16 cd16 ct16), sl16⟩)
    (c16 : PySem.W.codeIn K cd16 "check_standing" = true)
    (k16 : PySem.W.keepIn K (.ref f16) = true)
    (a17 : PySem.W.nsIn K mainGlobals "next_number" = some (some (.ref f17)))
    (l17 : K.lookup f17 = some ⟨oc17, od17, .func (PySem.W.fnOf "next_number" "next_number" (defArgs st_next_number) (defBody st_next_number) (defScope st_next_number) .none kV17 dc17 pm17 an17 cd17 ct17), sl17⟩)
    (c17 : PySem.W.codeIn K cd17 "next_number" = true)
    (k17 : PySem.W.keepIn K (.ref f17) = true)
    (a18 : PySem.W.nsIn K mainGlobals "giving" = some (some (.ref f18)))
    (l18 : K.lookup f18 = some ⟨oc18, od18, .func (PySem.W.fnOf "giving" "giving" (defArgs st_giving) (defBody st_giving) (defScope st_giving) .none kV18 dc18 pm18 an18 cd18 ct18), sl18⟩)
    (c18 : PySem.W.codeIn K cd18 "giving" = true)
    (k18 : PySem.W.keepIn K (.ref f18) = true)
    (a19 : PySem.W.nsIn K mainGlobals "restarted" = some (some (.ref f19)))
    (l19 : K.lookup f19 = some ⟨oc19, od19, .func (PySem.W.fnOf "restarted" "restarted" (defArgs st_restarted) (defBody st_restarted) (defScope st_restarted) .none kV19 dc19 pm19 an19 cd19 ct19), sl19⟩)
    (c19 : PySem.W.codeIn K cd19 "restarted" = true)
    (k19 : PySem.W.keepIn K (.ref f19) = true)
    (a20 : PySem.W.nsIn K mainGlobals "readings" = some (some (.ref f20)))
    (l20 : K.lookup f20 = some ⟨oc20, od20, .func (PySem.W.fnOf "readings" "readings" (defArgs st_readings) (defBody st_readings) (defScope st_readings) .none kV20 dc20 pm20 an20 cd20 ct20), sl20⟩)
    (c20 : PySem.W.codeIn K cd20 "readings" = true)
    (k20 : PySem.W.keepIn K (.ref f20) = true)
    (a21 : PySem.W.nsIn K mainGlobals "single_moves" = some (some (.ref f21)))
    (l21 : K.lookup f21 = some ⟨oc21, od21, .func (PySem.W.fnOf "single_moves" "single_moves" (defArgs st_single_moves) (defBody st_single_moves) (defScope st_single_moves) .none kV21 dc21 pm21 an21 cd21 ct21), sl21⟩)
    (c21 : PySem.W.codeIn K cd21 "single_moves" = true)
    (k21 : PySem.W.keepIn K (.ref f21) = true)
    (a22 : PySem.W.nsIn K mainGlobals "first_of" = some (some (.ref f22)))
    (l22 : K.lookup f22 = some ⟨oc22, od22, .func (PySem.W.fnOf "first_of" "first_of" (defArgs st_first_of) (defBody st_first_of) (defScope st_first_of) .none kV22 dc22 pm22 an22 cd22 ct22), sl22⟩)
    (c22 : PySem.W.codeIn K cd22 "first_of" = true)
    (k22 : PySem.W.keepIn K (.ref f22) = true)
    (a23 : PySem.W.nsIn K mainGlobals "all_moves" = some (some (.ref f23)))
    (l23 : K.lookup f23 = some ⟨oc23, od23, .func (PySem.W.fnOf "all_moves" "all_moves" (defArgs st_all_moves) (defBody st_all_moves) (defScope st_all_moves) .none kV23 dc23 pm23 an23 cd23 ct23), sl23⟩)
    (c23 : PySem.W.codeIn K cd23 "all_moves" = true)
    (k23 : PySem.W.keepIn K (.ref f23) = true)
    (a24 : PySem.W.nsIn K mainGlobals "is_word" = some (some (.ref f24)))
    (l24 : K.lookup f24 = some ⟨oc24, od24, .func (PySem.W.fnOf "is_word" "is_word" (defArgs st_is_word) (defBody st_is_word) (defScope st_is_word) .none kV24 dc24 pm24 an24 cd24 ct24), sl24⟩)
    (c24 : PySem.W.codeIn K cd24 "is_word" = true)
    (k24 : PySem.W.keepIn K (.ref f24) = true)
    (a25 : PySem.W.nsIn K mainGlobals "move" = some (some (.ref f25)))
    (l25 : K.lookup f25 = some ⟨oc25, od25, .func (PySem.W.fnOf "move" "move" (defArgs st_move) (defBody st_move) (defScope st_move) .none kV25 dc25 pm25 an25 cd25 ct25), sl25⟩)
    (c25 : PySem.W.codeIn K cd25 "move" = true)
    (k25 : PySem.W.keepIn K (.ref f25) = true)
    (a26 : PySem.W.nsIn K mainGlobals "after" = some (some (.ref f26)))
    (l26 : K.lookup f26 = some ⟨oc26, od26, .func (PySem.W.fnOf "after" "after" (defArgs st_after) (defBody st_after) (defScope st_after) .none kV26 dc26 pm26 an26 cd26 ct26), sl26⟩)
    (c26 : PySem.W.codeIn K cd26 "after" = true)
    (k26 : PySem.W.keepIn K (.ref f26) = true)
    (a27 : PySem.W.nsIn K mainGlobals "run" = some (some (.ref f27)))
    (l27 : K.lookup f27 = some ⟨oc27, od27, .func (PySem.W.fnOf "run" "run" (defArgs st_run) (defBody st_run) (defScope st_run) .none kV27 dc27 pm27 an27 cd27 ct27), sl27⟩)
    (c27 : PySem.W.codeIn K cd27 "run" = true)
    (k27 : PySem.W.keepIn K (.ref f27) = true)
    (a28 : PySem.W.nsIn K mainGlobals "_law_taken" = some (some (.ref f28)))
    (l28 : K.lookup f28 = some ⟨oc28, od28, .func (PySem.W.fnOf "_law_taken" "_law_taken" (defArgs st__law_taken) (defBody st__law_taken) (defScope st__law_taken) .none kV28 dc28 pm28 an28 cd28 ct28), sl28⟩)
    (c28 : PySem.W.codeIn K cd28 "_law_taken" = true)
    (k28 : PySem.W.keepIn K (.ref f28) = true)
    (a29 : PySem.W.nsIn K mainGlobals "_law_pick" = some (some (.ref f29)))
    (l29 : K.lookup f29 = some ⟨oc29, od29, .func (PySem.W.fnOf "_law_pick" "_law_pick" (defArgs st__law_pick) (defBody st__law_pick) (defScope st__law_pick) .none kV29 dc29 pm29 an29 cd29 ct29), sl29⟩)
    (c29 : PySem.W.codeIn K cd29 "_law_pick" = true)
    (k29 : PySem.W.keepIn K (.ref f29) = true)
    (a30 : PySem.W.nsIn K mainGlobals "_law_words" = some (some (.ref f30)))
    (l30 : K.lookup f30 = some ⟨oc30, od30, .func (PySem.W.fnOf "_law_words" "_law_words" (defArgs st__law_words) (defBody st__law_words) (defScope st__law_words) .none kV30 dc30 pm30 an30 cd30 ct30), sl30⟩)
    (c30 : PySem.W.codeIn K cd30 "_law_words" = true)
    (k30 : PySem.W.keepIn K (.ref f30) = true)
    (a31 : PySem.W.nsIn K mainGlobals "_law_scheme" = some (some (.ref f31)))
    (l31 : K.lookup f31 = some ⟨oc31, od31, .func (PySem.W.fnOf "_law_scheme" "_law_scheme" (defArgs st__law_scheme) (defBody st__law_scheme) (defScope st__law_scheme) .none kV31 dc31 pm31 an31 cd31 ct31), sl31⟩)
    (c31 : PySem.W.codeIn K cd31 "_law_scheme" = true)
    (k31 : PySem.W.keepIn K (.ref f31) = true)
    (a32 : PySem.W.nsIn K mainGlobals "_law_setup" = some (some (.ref f32)))
    (l32 : K.lookup f32 = some ⟨oc32, od32, .func (PySem.W.fnOf "_law_setup" "_law_setup" (defArgs st__law_setup) (defBody st__law_setup) (defScope st__law_setup) .none kV32 dc32 pm32 an32 cd32 ct32), sl32⟩)
    (c32 : PySem.W.codeIn K cd32 "_law_setup" = true)
    (k32 : PySem.W.keepIn K (.ref f32) = true)
    (a33 : PySem.W.nsIn K mainGlobals "_law_give" = some (some (.ref f33)))
    (l33 : K.lookup f33 = some ⟨oc33, od33, .func (PySem.W.fnOf "_law_give" "_law_give" (defArgs st__law_give) (defBody st__law_give) (defScope st__law_give) .none kV33 dc33 pm33 an33 cd33 ct33), sl33⟩)
    (c33 : PySem.W.codeIn K cd33 "_law_give" = true)
    (k33 : PySem.W.keepIn K (.ref f33) = true)
    (a34 : PySem.W.nsIn K mainGlobals "_law_step" = some (some (.ref f34)))
    (l34 : K.lookup f34 = some ⟨oc34, od34, .func (PySem.W.fnOf "_law_step" "_law_step" (defArgs st__law_step) (defBody st__law_step) (defScope st__law_step) .none kV34 dc34 pm34 an34 cd34 ct34), sl34⟩)
    (c34 : PySem.W.codeIn K cd34 "_law_step" = true)
    (k34 : PySem.W.keepIn K (.ref f34) = true)
    (a35 : PySem.W.nsIn K mainGlobals "_law_events" = some (some (.ref f35)))
    (l35 : K.lookup f35 = some ⟨oc35, od35, .func (PySem.W.fnOf "_law_events" "_law_events" (defArgs st__law_events) (defBody st__law_events) (defScope st__law_events) .none kV35 dc35 pm35 an35 cd35 ct35), sl35⟩)
    (c35 : PySem.W.codeIn K cd35 "_law_events" = true)
    (k35 : PySem.W.keepIn K (.ref f35) = true)
    (a36 : PySem.W.nsIn K mainGlobals "_law_begin" = some (some (.ref f36)))
    (l36 : K.lookup f36 = some ⟨oc36, od36, .func (PySem.W.fnOf "_law_begin" "_law_begin" (defArgs st__law_begin) (defBody st__law_begin) (defScope st__law_begin) .none kV36 dc36 pm36 an36 cd36 ct36), sl36⟩)
    (c36 : PySem.W.codeIn K cd36 "_law_begin" = true)
    (k36 : PySem.W.keepIn K (.ref f36) = true)
    (a37 : PySem.W.nsIn K mainGlobals "_law_history" = some (some (.ref f37)))
    (l37 : K.lookup f37 = some ⟨oc37, od37, .func (PySem.W.fnOf "_law_history" "_law_history" (defArgs st__law_history) (defBody st__law_history) (defScope st__law_history) .none kV37 dc37 pm37 an37 cd37 ct37), sl37⟩)
    (c37 : PySem.W.codeIn K cd37 "_law_history" = true)
    (k37 : PySem.W.keepIn K (.ref f37) = true)
    (a38 : PySem.W.nsIn K mainGlobals "_law_any" = some (some (.ref f38)))
    (l38 : K.lookup f38 = some ⟨oc38, od38, .func (PySem.W.fnOf "_law_any" "_law_any" (defArgs st__law_any) (defBody st__law_any) (defScope st__law_any) .none kV38 dc38 pm38 an38 cd38 ct38), sl38⟩)
    (c38 : PySem.W.codeIn K cd38 "_law_any" = true)
    (k38 : PySem.W.keepIn K (.ref f38) = true)
    (a39 : PySem.W.nsIn K mainGlobals "law" = some (some (.ref f39)))
    (l39 : K.lookup f39 = some ⟨oc39, od39, .func (PySem.W.fnOf "law" "law" (defArgs st_law) (defBody st_law) (defScope st_law) .none kV39 dc39 pm39 an39 cd39 ct39), sl39⟩)
    (c39 : PySem.W.codeIn K cd39 "law" = true)
    (k39 : PySem.W.keepIn K (.ref f39) = true)
    (zb_all : PySem.W.nsIn K mainGlobals "all" = some none)
    (zb_bool : PySem.W.nsIn K mainGlobals "bool" = some none)
    (zb_enumerate : PySem.W.nsIn K mainGlobals "enumerate" = some none)
    (zb_int : PySem.W.nsIn K mainGlobals "int" = some none)
    (zb_isinstance : PySem.W.nsIn K mainGlobals "isinstance" = some none)
    (zb_len : PySem.W.nsIn K mainGlobals "len" = some none)
    (zb_max : PySem.W.nsIn K mainGlobals "max" = some none)
    (zb_min : PySem.W.nsIn K mainGlobals "min" = some none)
    (zb_range : PySem.W.nsIn K mainGlobals "range" = some none)
    (zb_sorted : PySem.W.nsIn K mainGlobals "sorted" = some none)
    (zb_tuple : PySem.W.nsIn K mainGlobals "tuple" = some none)
    (zb_zip : PySem.W.nsIn K mainGlobals "zip" = some none)
    (zg_PARTS : PySem.W.nsIn K mainGlobals "PARTS" = some (some (.ref ga_PARTS)))
    (zl_PARTS : K.lookup ga_PARTS = some ⟨.type "tuple", go_PARTS, .seq #[(.str "on_back" t_PARTS_0), (.str "on_full" t_PARTS_1), (.str "on_restart" t_PARTS_2)] gn_PARTS, gs_PARTS⟩)
    (zg_BACK_WORDS : PySem.W.nsIn K mainGlobals "BACK_WORDS" = some (some (.ref ga_BACK_WORDS)))
    (zl_BACK_WORDS : K.lookup ga_BACK_WORDS = some ⟨.type "tuple", go_BACK_WORDS, .seq #[(.str "trust" t_BACK_WORDS_0), (.str "hold" t_BACK_WORDS_1), (.str "refuse" t_BACK_WORDS_2)] gn_BACK_WORDS, gs_BACK_WORDS⟩)
    (zg_FULL_WORDS : PySem.W.nsIn K mainGlobals "FULL_WORDS" = some (some (.ref ga_FULL_WORDS)))
    (zl_FULL_WORDS : K.lookup ga_FULL_WORDS = some ⟨.type "tuple", go_FULL_WORDS, .seq #[(.str "wrap" t_FULL_WORDS_0), (.str "borrow" t_FULL_WORDS_1), (.str "refuse" t_FULL_WORDS_2)] gn_FULL_WORDS, gs_FULL_WORDS⟩)
    (zg_RESTART_WORDS : PySem.W.nsIn K mainGlobals "RESTART_WORDS" = some (some (.ref ga_RESTART_WORDS)))
    (zl_RESTART_WORDS : K.lookup ga_RESTART_WORDS = some ⟨.type "tuple", go_RESTART_WORDS, .seq #[(.str "forget" t_RESTART_WORDS_0), (.str "saved" t_RESTART_WORDS_1), (.str "wait" t_RESTART_WORDS_2)] gn_RESTART_WORDS, gs_RESTART_WORDS⟩)
    (zg_MAX_MAKERS : PySem.W.nsIn K mainGlobals "MAX_MAKERS" = some (some (.int 2 t_MAX_MAKERS)))
    (zg_MAX_MARK : PySem.W.nsIn K mainGlobals "MAX_MARK" = some (some (.int 3 t_MAX_MARK)))
    (zg_FRESH : PySem.W.nsIn K mainGlobals "FRESH" = some (some (.ref ga_FRESH)))
    (zl_FRESH : K.lookup ga_FRESH = some ⟨.type "tuple", go_FRESH, .seq #[(.int 0 t_FRESH_0), (.int (-1) t_FRESH_1), (.int 0 t_FRESH_2), (.int (-1) t_FRESH_3)] gn_FRESH, gs_FRESH⟩)
    (zg_NONE : PySem.W.nsIn K mainGlobals "NONE" = some (some (.int (-1) t_NONE)))
    (zg_CLOCK : PySem.W.nsIn K mainGlobals "CLOCK" = some (some (.str "clock" t_CLOCK)))
    (zg_GIVE : PySem.W.nsIn K mainGlobals "GIVE" = some (some (.str "give" t_GIVE)))
    (zg_RESTART : PySem.W.nsIn K mainGlobals "RESTART" = some (some (.str "restart" t_RESTART)))
    : ∃ (fd : FuncData) (G' : Gx), G'.K = K ∧ G'.mg = mg ∧ (∀ (s : Shared) (v : Value), BindsTo s fd ⟨[v], []⟩ [("_law_script", v)]) ∧ ∀ base : Heap, K.In base → base.Ns mainGlobals mg → FnOk l.prog w K mg base (L2.CX l.prog w) 24 fa fd ["_law_script"] (lift G' F_law) := by
  have e := hfa.symm.trans (PySem.W.mg_of X G a39)
  cases e
  have T : Txt K mg C0 C1 := ⟨PySem.W.mg_of X G zc0,
    ⟨zp0, zi0, zo0, zs0⟩,
    zm0,
    zk0,
    PySem.W.mg_of X G zc1,
    ⟨zp1, zi1, zo1, zs1⟩,
    zm1,
    zk1,
    ⟨_, ya0_0, yb0_0, yc0_0, yd0_0, ye0_0, by decide⟩,
    ⟨_, ya1_1, yb1_1, yc1_1, yd1_1, ye1_1, by decide⟩,
    ⟨_, ya1_2, yb1_2, yc1_2, yd1_2, ye1_2, by decide⟩,
    DefAt.mk' X G a0 l0 c0 k0,
    ⟨⟨_, _, a1, i1, fun_mk l1 c1 k1⟩⟩,
    ⟨⟨_, _, _, ⟨a2, u2, v2, _, x2⟩, fun_mk l2 c2 k2⟩⟩,
    ⟨⟨_, _, _, ⟨a3, u3, v3, _, x3⟩, fun_mk l3 c3 k3⟩⟩,
    ⟨⟨_, _, _, ⟨a4, u4, v4, _, x4⟩, fun_mk l4 c4 k4⟩⟩,
    DefAt.mk' X G a5 l5 c5 k5,
    ⟨⟨_, _, a6, i6, fun_mk l6 c6 k6⟩⟩,
    ⟨⟨_, _, _, ⟨a7, u7, v7, _, x7⟩, fun_mk l7 c7 k7⟩⟩,
    ⟨⟨_, _, _, ⟨a8, u8, v8, _, x8⟩, fun_mk l8 c8 k8⟩⟩,
    ⟨⟨_, _, _, ⟨a9, u9, v9, _, x9⟩, fun_mk l9 c9 k9⟩⟩,
    ⟨⟨_, _, _, ⟨a10, u10, v10, _, x10⟩, fun_mk l10 c10 k10⟩⟩,
    ⟨⟨_, _, _, ⟨a11, u11, v11, _, x11⟩, fun_mk l11 c11 k11⟩⟩,
    ⟨⟨_, _, _, ⟨a12, u12, v12, _, x12⟩, fun_mk l12 c12 k12⟩⟩,
    ⟨⟨_, _, a13, i13, fun_mk l13 c13 k13⟩⟩,
    DefAt.mk' X G a14 l14 c14 k14,
    DefAt.mk' X G a15 l15 c15 k15,
    DefAt.mk' X G a16 l16 c16 k16,
    DefAt.mk' X G a17 l17 c17 k17,
    DefAt.mk' X G a18 l18 c18 k18,
    DefAt.mk' X G a19 l19 c19 k19,
    DefAt.mk' X G a20 l20 c20 k20,
    DefAt.mk' X G a21 l21 c21 k21,
    DefAt.mk' X G a22 l22 c22 k22,
    DefAt.mk' X G a23 l23 c23 k23,
    DefAt.mk' X G a24 l24 c24 k24,
    DefAt.mk' X G a25 l25 c25 k25,
    DefAt.mk' X G a26 l26 c26 k26,
    DefAt.mk' X G a27 l27 c27 k27,
    DefAt.mk' X G a28 l28 c28 k28,
    DefAt.mk' X G a29 l29 c29 k29,
    DefAt.mk' X G a30 l30 c30 k30,
    DefAt.mk' X G a31 l31 c31 k31,
    DefAt.mk' X G a32 l32 c32 k32,
    DefAt.mk' X G a33 l33 c33 k33,
    DefAt.mk' X G a34 l34 c34 k34,
    DefAt.mk' X G a35 l35 c35 k35,
    DefAt.mk' X G a36 l36 c36 k36,
    DefAt.mk' X G a37 l37 c37 k37,
    DefAt.mk' X G a38 l38 c38 k38,
    DefAt.mk' X G a39 l39 c39 k39,
    PySem.W.mg_none_of X G zb_all,
    PySem.W.mg_none_of X G zb_bool,
    PySem.W.mg_none_of X G zb_enumerate,
    PySem.W.mg_none_of X G zb_int,
    PySem.W.mg_none_of X G zb_isinstance,
    PySem.W.mg_none_of X G zb_len,
    PySem.W.mg_none_of X G zb_max,
    PySem.W.mg_none_of X G zb_min,
    PySem.W.mg_none_of X G zb_range,
    PySem.W.mg_none_of X G zb_sorted,
    PySem.W.mg_none_of X G zb_tuple,
    PySem.W.mg_none_of X G zb_zip,
    gv_tup (t := ⟨_, _, gx K mg, _, _⟩) (us := [(.str "on_back" t_PARTS_0), (.str "on_full" t_PARTS_1), (.str "on_restart" t_PARTS_2)]) (PySem.W.mg_of X G zg_PARTS) zl_PARTS (show 3 ≤ 1000 by decide) (.cons (.str _ _) (.cons (.str _ _) (.cons (.str _ _) RCs.nil))),
    gv_tup (t := ⟨_, _, gx K mg, _, _⟩) (us := [(.str "trust" t_BACK_WORDS_0), (.str "hold" t_BACK_WORDS_1), (.str "refuse" t_BACK_WORDS_2)]) (PySem.W.mg_of X G zg_BACK_WORDS) zl_BACK_WORDS (show 3 ≤ 1000 by decide) (.cons (.str _ _) (.cons (.str _ _) (.cons (.str _ _) RCs.nil))),
    gv_tup (t := ⟨_, _, gx K mg, _, _⟩) (us := [(.str "wrap" t_FULL_WORDS_0), (.str "borrow" t_FULL_WORDS_1), (.str "refuse" t_FULL_WORDS_2)]) (PySem.W.mg_of X G zg_FULL_WORDS) zl_FULL_WORDS (show 3 ≤ 1000 by decide) (.cons (.str _ _) (.cons (.str _ _) (.cons (.str _ _) RCs.nil))),
    gv_tup (t := ⟨_, _, gx K mg, _, _⟩) (us := [(.str "forget" t_RESTART_WORDS_0), (.str "saved" t_RESTART_WORDS_1), (.str "wait" t_RESTART_WORDS_2)]) (PySem.W.mg_of X G zg_RESTART_WORDS) zl_RESTART_WORDS (show 3 ≤ 1000 by decide) (.cons (.str _ _) (.cons (.str _ _) (.cons (.str _ _) RCs.nil))),
    gv_int (t := ⟨_, _, gx K mg, _, _⟩) (PySem.W.mg_of X G zg_MAX_MAKERS),
    gv_int (t := ⟨_, _, gx K mg, _, _⟩) (PySem.W.mg_of X G zg_MAX_MARK),
    gv_tup (t := ⟨_, _, gx K mg, _, _⟩) (us := [(.int 0 t_FRESH_0), (.int (-1) t_FRESH_1), (.int 0 t_FRESH_2), (.int (-1) t_FRESH_3)]) (PySem.W.mg_of X G zg_FRESH) zl_FRESH (show 4 ≤ 1000 by decide) (.cons (.int _ _) (.cons (.int _ _) (.cons (.int _ _) (.cons (.int _ _) RCs.nil)))),
    gv_int (t := ⟨_, _, gx K mg, _, _⟩) (PySem.W.mg_of X G zg_NONE),
    gv_str (t := ⟨_, _, gx K mg, _, _⟩) (PySem.W.mg_of X G zg_CLOCK),
    gv_str (t := ⟨_, _, gx K mg, _, _⟩) (PySem.W.mg_of X G zg_GIVE),
    gv_str (t := ⟨_, _, gx K mg, _, _⟩) (PySem.W.mg_of X G zg_RESTART)⟩
  exact ⟨_, gx K mg, rfl, rfl, fun s v => .of_eq rfl, fun base _ _ => ok_law_fn T (fun_mk (st := st_law) l39 c39 k39)⟩
end Ev

open PySem PySem.W PyProof.Rows in
set_option maxRecDepth 100000 in
set_option maxHeartbeats 0 in
theorem PySem.Challenge.cw_manymakers_k03_whole_events_one_by_one_holds : PySem.Challenge.rw_manymakers_k03_whole_events_one_by_one.Holds := by
  w_on; o_law; k_head; (case hw => w_witness2)
  k_fill
  refine Pf.walk_L (l := PySem.Challenge.rw_manymakers_k03_whole_events_one_by_one) (n := 63) (k := 24) (x := "_law_script") rfl (by decide) rfl ⟨rfl, by decide, by decide⟩ (fun w h Y => PySem.W.kIn_of Y) (Fl := Ev.F_law) Ev.law_true ?F
  case F =>
    intro w mg fa h KX G hmg
    refine' Ev.all_mk KX G hmg ?zc0 ?zp0 ?zi0 ?zo0 ?zs0 ?zm0 ?zk0 ?zc1 ?zp1 ?zi1 ?zo1 ?zs1 ?zm1 ?zk1 ?ya0_0 ?yb0_0 ?yc0_0 ?yd0_0 ?ye0_0 ?ya1_1 ?yb1_1 ?yc1_1 ?yd1_1 ?ye1_1 ?ya1_2 ?yb1_2 ?yc1_2 ?yd1_2 ?ye1_2 ?a0 ?l0 ?c0 ?k0 ?a1 ?i1 ?l1 ?c1 ?k1 ?a2 ?u2 ?v2 ?x2 ?l2 ?c2 ?k2 ?a3 ?u3 ?v3 ?x3 ?l3 ?c3 ?k3 ?a4 ?u4 ?v4 ?x4 ?l4 ?c4 ?k4 ?a5 ?l5 ?c5 ?k5 ?a6 ?i6 ?l6 ?c6 ?k6 ?a7 ?u7 ?v7 ?x7 ?l7 ?c7 ?k7 ?a8 ?u8 ?v8 ?x8 ?l8 ?c8 ?k8 ?a9 ?u9 ?v9 ?x9 ?l9 ?c9 ?k9 ?a10 ?u10 ?v10 ?x10 ?l10 ?c10 ?k10 ?a11 ?u11 ?v11 ?x11 ?l11 ?c11 ?k11 ?a12 ?u12 ?v12 ?x12 ?l12 ?c12 ?k12 ?a13 ?i13 ?l13 ?c13 ?k13 ?a14 ?l14 ?c14 ?k14 ?a15 ?l15 ?c15 ?k15 ?a16 ?l16 ?c16 ?k16 ?a17 ?l17 ?c17 ?k17 ?a18 ?l18 ?c18 ?k18 ?a19 ?l19 ?c19 ?k19 ?a20 ?l20 ?c20 ?k20 ?a21 ?l21 ?c21 ?k21 ?a22 ?l22 ?c22 ?k22 ?a23 ?l23 ?c23 ?k23 ?a24 ?l24 ?c24 ?k24 ?a25 ?l25 ?c25 ?k25 ?a26 ?l26 ?c26 ?k26 ?a27 ?l27 ?c27 ?k27 ?a28 ?l28 ?c28 ?k28 ?a29 ?l29 ?c29 ?k29 ?a30 ?l30 ?c30 ?k30 ?a31 ?l31 ?c31 ?k31 ?a32 ?l32 ?c32 ?k32 ?a33 ?l33 ?c33 ?k33 ?a34 ?l34 ?c34 ?k34 ?a35 ?l35 ?c35 ?k35 ?a36 ?l36 ?c36 ?k36 ?a37 ?l37 ?c37 ?k37 ?a38 ?l38 ?c38 ?k38 ?a39 ?l39 ?c39 ?k39 ?zb_all ?zb_bool ?zb_enumerate ?zb_int ?zb_isinstance ?zb_len ?zb_max ?zb_min ?zb_range ?zb_sorted ?zb_tuple ?zb_zip ?zg_PARTS ?zl_PARTS ?zg_BACK_WORDS ?zl_BACK_WORDS ?zg_FULL_WORDS ?zl_FULL_WORDS ?zg_RESTART_WORDS ?zl_RESTART_WORDS ?zg_MAX_MAKERS ?zg_MAX_MARK ?zg_FRESH ?zl_FRESH ?zg_NONE ?zg_CLOCK ?zg_GIVE ?zg_RESTART
    (case zc0 => k_is)
    (case zp0 => k_is)
    (case zi0 => k_is)
    (case zo0 => k_is)
    (case zs0 => k_is)
    (case zm0 => k_is)
    (case zk0 => k_is)
    (case zc1 => k_is)
    (case zp1 => k_is)
    (case zi1 => k_is)
    (case zo1 => k_is)
    (case zs1 => k_is)
    (case zm1 => k_is)
    (case zk1 => k_is)
    (case ya0_0 => k_is)
    (case yb0_0 => k_is)
    (case yc0_0 => k_is)
    (case yd0_0 => k_is)
    (case ye0_0 => k_is)
    (case ya1_1 => k_is)
    (case yb1_1 => k_is)
    (case yc1_1 => k_is)
    (case yd1_1 => k_is)
    (case ye1_1 => k_is)
    (case ya1_2 => k_is)
    (case yb1_2 => k_is)
    (case yc1_2 => k_is)
    (case yd1_2 => k_is)
    (case ye1_2 => k_is)
    (case a0 => k_is)
    (case l0 => k_is)
    (case c0 => k_is)
    (case k0 => k_is)
    (case a1 => k_is)
    (case i1 => k_is)
    (case l1 => k_is)
    (case c1 => k_is)
    (case k1 => k_is)
    (case a2 => k_is)
    (case u2 => k_is)
    (case v2 => k_is)
    (case x2 => k_is)
    (case l2 => k_is)
    (case c2 => k_is)
    (case k2 => k_is)
    (case a3 => k_is)
    (case u3 => k_is)
    (case v3 => k_is)
    (case x3 => k_is)
    (case l3 => k_is)
    (case c3 => k_is)
    (case k3 => k_is)
    (case a4 => k_is)
    (case u4 => k_is)
    (case v4 => k_is)
    (case x4 => k_is)
    (case l4 => k_is)
    (case c4 => k_is)
    (case k4 => k_is)
    (case a5 => k_is)
    (case l5 => k_is)
    (case c5 => k_is)
    (case k5 => k_is)
    (case a6 => k_is)
    (case i6 => k_is)
    (case l6 => k_is)
    (case c6 => k_is)
    (case k6 => k_is)
    (case a7 => k_is)
    (case u7 => k_is)
    (case v7 => k_is)
    (case x7 => k_is)
    (case l7 => k_is)
    (case c7 => k_is)
    (case k7 => k_is)
    (case a8 => k_is)
    (case u8 => k_is)
    (case v8 => k_is)
    (case x8 => k_is)
    (case l8 => k_is)
    (case c8 => k_is)
    (case k8 => k_is)
    (case a9 => k_is)
    (case u9 => k_is)
    (case v9 => k_is)
    (case x9 => k_is)
    (case l9 => k_is)
    (case c9 => k_is)
    (case k9 => k_is)
    (case a10 => k_is)
    (case u10 => k_is)
    (case v10 => k_is)
    (case x10 => k_is)
    (case l10 => k_is)
    (case c10 => k_is)
    (case k10 => k_is)
    (case a11 => k_is)
    (case u11 => k_is)
    (case v11 => k_is)
    (case x11 => k_is)
    (case l11 => k_is)
    (case c11 => k_is)
    (case k11 => k_is)
    (case a12 => k_is)
    (case u12 => k_is)
    (case v12 => k_is)
    (case x12 => k_is)
    (case l12 => k_is)
    (case c12 => k_is)
    (case k12 => k_is)
    (case a13 => k_is)
    (case i13 => k_is)
    (case l13 => k_is)
    (case c13 => k_is)
    (case k13 => k_is)
    (case a14 => k_is)
    (case l14 => k_is)
    (case c14 => k_is)
    (case k14 => k_is)
    (case a15 => k_is)
    (case l15 => k_is)
    (case c15 => k_is)
    (case k15 => k_is)
    (case a16 => k_is)
    (case l16 => k_is)
    (case c16 => k_is)
    (case k16 => k_is)
    (case a17 => k_is)
    (case l17 => k_is)
    (case c17 => k_is)
    (case k17 => k_is)
    (case a18 => k_is)
    (case l18 => k_is)
    (case c18 => k_is)
    (case k18 => k_is)
    (case a19 => k_is)
    (case l19 => k_is)
    (case c19 => k_is)
    (case k19 => k_is)
    (case a20 => k_is)
    (case l20 => k_is)
    (case c20 => k_is)
    (case k20 => k_is)
    (case a21 => k_is)
    (case l21 => k_is)
    (case c21 => k_is)
    (case k21 => k_is)
    (case a22 => k_is)
    (case l22 => k_is)
    (case c22 => k_is)
    (case k22 => k_is)
    (case a23 => k_is)
    (case l23 => k_is)
    (case c23 => k_is)
    (case k23 => k_is)
    (case a24 => k_is)
    (case l24 => k_is)
    (case c24 => k_is)
    (case k24 => k_is)
    (case a25 => k_is)
    (case l25 => k_is)
    (case c25 => k_is)
    (case k25 => k_is)
    (case a26 => k_is)
    (case l26 => k_is)
    (case c26 => k_is)
    (case k26 => k_is)
    (case a27 => k_is)
    (case l27 => k_is)
    (case c27 => k_is)
    (case k27 => k_is)
    (case a28 => k_is)
    (case l28 => k_is)
    (case c28 => k_is)
    (case k28 => k_is)
    (case a29 => k_is)
    (case l29 => k_is)
    (case c29 => k_is)
    (case k29 => k_is)
    (case a30 => k_is)
    (case l30 => k_is)
    (case c30 => k_is)
    (case k30 => k_is)
    (case a31 => k_is)
    (case l31 => k_is)
    (case c31 => k_is)
    (case k31 => k_is)
    (case a32 => k_is)
    (case l32 => k_is)
    (case c32 => k_is)
    (case k32 => k_is)
    (case a33 => k_is)
    (case l33 => k_is)
    (case c33 => k_is)
    (case k33 => k_is)
    (case a34 => k_is)
    (case l34 => k_is)
    (case c34 => k_is)
    (case k34 => k_is)
    (case a35 => k_is)
    (case l35 => k_is)
    (case c35 => k_is)
    (case k35 => k_is)
    (case a36 => k_is)
    (case l36 => k_is)
    (case c36 => k_is)
    (case k36 => k_is)
    (case a37 => k_is)
    (case l37 => k_is)
    (case c37 => k_is)
    (case k37 => k_is)
    (case a38 => k_is)
    (case l38 => k_is)
    (case c38 => k_is)
    (case k38 => k_is)
    (case a39 => k_is)
    (case l39 => k_is)
    (case c39 => k_is)
    (case k39 => k_is)
    (case zb_all => k_is)
    (case zb_bool => k_is)
    (case zb_enumerate => k_is)
    (case zb_int => k_is)
    (case zb_isinstance => k_is)
    (case zb_len => k_is)
    (case zb_max => k_is)
    (case zb_min => k_is)
    (case zb_range => k_is)
    (case zb_sorted => k_is)
    (case zb_tuple => k_is)
    (case zb_zip => k_is)
    (case zg_PARTS => k_is)
    (case zl_PARTS => k_is)
    (case zg_BACK_WORDS => k_is)
    (case zl_BACK_WORDS => k_is)
    (case zg_FULL_WORDS => k_is)
    (case zl_FULL_WORDS => k_is)
    (case zg_RESTART_WORDS => k_is)
    (case zl_RESTART_WORDS => k_is)
    (case zg_MAX_MAKERS => k_is)
    (case zg_MAX_MARK => k_is)
    (case zg_FRESH => k_is)
    (case zl_FRESH => k_is)
    (case zg_NONE => k_is)
    (case zg_CLOCK => k_is)
    (case zg_GIVE => k_is)
    (case zg_RESTART => k_is)
#print axioms PySem.Challenge.cw_manymakers_k03_whole_events_one_by_one_holds
