import PyProof.Rows.All
import Wide.All
import OpenK.AllK
import Wide.FinOn
import HandS.ForMost
import HandS.ForExc
import HandS.Slots
import HandS.Nested
import KE.KDictKeyed
import HandS.TupAny
import HandS.Deep
import HandS.Wide
import HandS.IsInst
import KE.DataCmp
import KE.SortData
import HandS.Style
import HandS.Property
import HandS.SlotsOwn
import HandS.TupMul
import HandS.Star
import KE.GoesEnum
import KE.GoesZip
import HandS.Zip
import HandS.Exc
import OpenK.KOps
import HandS.MapObj
import HandS.RevTup
import KE.KDictZip
import HandS.Keys
import HandS.FromBytesMap
import HandS.SortKw
import KE.SortKeyHeap
import PyProof.FactsAll.dict_2
import HandS.DictComp
import HandS.More
import HandS.Iter
import KE.OsSort
import HandS.Conv
import KE.KDictDisplayH
import KE.KDictCopyH
import PyProof.Rows.TupDisplay
import PyProof.CodeObj
import HandS.EndTab
import HandS.EndBits
import KE.KNestM
import KE.DataMinMax
import PyProof.P3Eq
import HandS.TupSets
import KE.KDictWalk
import KE.KDictSum
import HandS.Dict
import HandS.SetFor
import PySem.Challenge.RW_manymakers_k50_whole_marks_lent_again
set_option Elab.async false
set_option linter.all false
set_option maxRecDepth 100000
/-! ## Data, heaps of data, and how both are borne by the hand layer's heap -/
namespace Pf
open PySem L2

/-- a value as plain data; ref i: the thing i of the heap of data -/
inductive D where
  | non | bl (b : Bool) | int (i : Int) | str (x : List Nat) | ty (n : String)
  | tup (l : List D) | lst (l : List D) | lsc (l : List D)
  | dct (kvs : List (D × D)) | dcn (kvs : List (D × D)) | set (l : List D)
  | ins (c : Nat) (fs : List (Nat × D))
  | ref (i : Nat) | gl (x : Nat) | clo (i : Nat) (l : List D) | exc (c : Nat) (fs : List (Nat × D))
abbrev Hh := List D
mutual
/-- data as a key -/
def nkey : D → NestedKey
  | .bl b => .num (if b then 1 else 0)
  | .int i => .num i
  | .str x => .text ⟨x.toArray⟩
  | .tup l => .tup (nkeys l)
  | .non => .none | .ty _ => .none | .lst _ => .none | .lsc _ => .none | .dct _ => .none | .dcn _ => .none | .set _ => .none | .ins _ _ => .none | .ref _ => .none | .gl _ => .none | .clo _ _ => .none | .exc _ _ => .none
def nkeys : List D → List NestedKey
  | [] => []
  | d :: l => nkey d :: nkeys l
end
/-- data that can be a key (flat, of at most such a depth) -/
def kOk : Nat → D → Bool
  | _, .non => true
  | _, .bl _ => true
  | _, .int _ => true
  | _, .str _ => true
  | n + 1, .tup l => l.all (kOk n)
  | _, _ => false
def isTp : D → Bool
  | .tup _ => true
  | _ => false
/-- a tuple that can be a key -/
def nK (d : D) : Bool := isTp d && kOk 8 d
def tS (x : List Nat) : Str := ⟨x.toArray⟩
theorem tS_inj {x y : List Nat} (h : tS x = tS y) : x = y := by
  unfold tS at h
  injection h with h
  simpa using congrArg Array.toList h

/-! names by numbers -/
def cNames : List String := ["Plan", "Setup", "State", "Line", "House", "Trial", "Desk", "Items", "Watcher", "Row", "Machine", "MakerError", "InvalidPlan", "InvalidSetup", "InvalidStanding", "UnknownMaker", "InvalidEvent", "InvalidHistory", "InvalidNumber", "InvalidSeries", "UnlikeSetups", "InvalidCount",
  "InvalidAsks", "InvalidTime", "InvalidLog", "InvalidWidth", "InvalidValue", "InvalidName", "UnknownKept", "InvalidOperation", "NoHistory", "InvalidLine", "DecodeError", "ScriptError", "ExecutionFailed", "TooLong"]
def fNames : List String := ["words", "makers", "sizes", "facts", "shelf", "past", "undone", "number", "head", "rest", "block", "base", "held", "tested_house", "origin", "newest", "chosen", "size", "span", "rows", "data", "spot", "ends", "last", "accepted", "house", "output", "step_count", "part", "index", "row", "word", "offset"]
def nmC (i : Nat) : Str := Str.ofString (cNames.getD i "?")
def nmF (i : Nat) : Str := Str.ofString (fNames.getD i "?")
theorem nmF_inj {i j : Nat} (hi : i < 33) (hj : j < 33) (h : nmF i = nmF j) : i = j := by
  have : ∀ i < 33, ∀ j < 33, nmF i = nmF j → i = j := by decide +kernel
  exact this i hi j hj h
/-- the classes with slots: the fields' places -/
def slTab : Nat → List (Nat × Nat)
  | 0 => [(0, 0)]
  | 1 => [(1, 0), (2, 1)]
  | 2 => [(3, 0), (5, 1), (4, 2), (6, 3)]
  | 3 => [(10, 0), (8, 1), (7, 2), (9, 3)]
  | _ => []
def isSl (c : Nat) : Bool := decide (c < 4)

/-- neither the dict of an instance nor a table -/
def Stl : HO → Prop
  | .own _ => False
  | .tbl _ => False
  | _ => True
/-- where things are: written no more (F); the heap's things by number (bs) -/
structure Mp where
  F : Addr → Prop
  bs : List Addr
inductive Bd where
  | st (b : List Stmt) | ex (e : Expr)
/-- the words of a function that is made by a def or a lambda within a def; fr: what it captures -/
structure Cl where
  name : Str
  qual : Str
  params : Arguments
  body : Bd
  scope : Scope
  fr : List Str
/-- the module: its written part, its names; what is kept for later -/
structure Gx where
  K : PySem.W.Frag
  mg : Str → Option Value
  gn : Nat → Str := fun _ => "?"
  hash : D → Int := fun _ => 0
  T : List NdefX.NTab := []
  ct : List Cl := []
  hc : (Addr → Prop) → Hp → Nat → List V → V → Prop := fun _ _ _ _ _ => False
  hx : (Addr → Prop) → Hp → Addr → Option Addr → V → Prop := fun _ _ _ _ _ => False

/-- a tuple stands at a -/
def TupAt (G : Gx) (F : Addr → Prop) (H : Hp) (a : Addr) (xs : List V) : Prop :=
  (F a ∧ H a = some (.tup xs)) ∨
    ∃ (o : Obj) (its : Array Value) (n : Nat), G.K.lookup a = some o ∧ o.cls = .type "tuple" ∧ o.data = .seq its n ∧ its.size ≤ sizeLine ∧ Vals xs its.toList
/-- a list that was there ahead of all -/
def LscAt (G : Gx) (F : Addr → Prop) (H : Hp) (a : Addr) (xs : List V) : Prop :=
  (F a ∧ ∃ o, H a = some (.frz o (.lst xs))) ∨
    ∃ (o : Obj) (its : Array Value) (n : Nat), G.K.lookup a = some o ∧ o.cls = .type "list" ∧ o.dict = none ∧ o.data = .seq its n ∧ its.size ≤ sizeLine ∧ Vals xs its.toList
/-- a dict's object, a set's object -/
def DicO (a : Addr) (es : List DictEntry) (ep : Nat) (ks : List NestedKey) : HO := .ext fun h => ks.Nodup ∧ ∃ (o : Obj), h.get? a = some o ∧ o.ExactDict ∧ o.data = .dict es.toArray ep
def SetO (a : Addr) (es : List (Int × Value)) : HO := .ext fun h => ∃ (o : Obj) (ep : Nat) (t : SetTable), h.get? a = some o ∧ o.ExactSet ∧ o.data = .set es.toArray ep t ∧ es.length < scanBound ∧ t.fits es.length = true
/-- the slots by name -/
def SlotsOk (c : Nat) (vs : List (Str × V)) (ws : List (Option V)) : Prop := ∀ i v, i < 33 → vs.lookup (nmF i) = some v → ∃ j, (slTab c).lookup i = some j ∧ ws[j]? = some (some v)

mutual
inductive RV (G : Gx) (M : Mp) (H : Hp) : D → V → Prop
  | non : RV G M H .non .non
  | bl (b : Bool) : RV G M H (.bl b) (.bl b)
  | int (i : Int) : RV G M H (.int i) (.int i)
  | str (x : List Nat) : RV G M H (.str x) (.str (tS x))
  | ty (n : String) : RV G M H (.ty n) (.ty n)
  | tup {a : Addr} {l : List D} {xs : List V} : TupAt G M.F H a xs → RVs G M H l xs → RV G M H (.tup l) (.ref a)
  | scr {a : Addr} {l : List D} {xs : List V} : LscAt G M.F H a xs → RVs G M H l xs → RV G M H (.lsc l) (.ref a)
  | lst {a : Addr} {l : List D} : M.F a → RO G M H a (.lst l) → RV G M H (.lst l) (.ref a)
  | dct {a : Addr} {l : List (D × D)} {o : Obj} {ks : List (Key × V)} : M.F a → H a = some (.frz o (.dK ks)) → RKs G M H l ks → RV G M H (.dct l) (.ref a)
  | dcn {a : Addr} {l : List (D × D)} : M.F a → RO G M H a (.dcn l) → RV G M H (.dcn l) (.ref a)
  | set {a : Addr} {l : List D} : M.F a → RO G M H a (.set l) → RV G M H (.set l) (.ref a)
  | ins {a : Addr} {c : Nat} {fs : List (Nat × D)} : M.F a → RO G M H a (.ins c fs) → RV G M H (.ins c fs) (.ref a)
  | ref {i : Nat} {a : Addr} : M.bs[i]? = some a → RV G M H (.ref i) (.ref a)
  | gl {x : Nat} {a : Addr} : G.mg (G.gn x) = some (.ref a) → RV G M H (.gl x) (.ref a)
  | clo {i : Nat} {l : List D} {xs : List V} {v : V} : G.hc M.F H i xs v → RVs G M H l xs → RV G M H (.clo i l) v
  | exc {c : Nat} {C : Addr} {fs : List (Nat × D)} {xs : List (Str × V)} {dx : Option Addr} {v : V} : G.mg (nmC c) = some (.ref C) → G.hx M.F H C dx v → (∀ d, dx = some d → M.F d ∧ H d = some (.xd xs)) → (dx = none → xs = []) → RFs G M H fs xs → RV G M H (.exc c fs) v
inductive RVs (G : Gx) (M : Mp) (H : Hp) : List D → List V → Prop
  | nil : RVs G M H [] []
  | cons {d : D} {v : V} {l : List D} {xs : List V} : RV G M H d v → RVs G M H l xs → RVs G M H (d :: l) (v :: xs)
inductive RFs (G : Gx) (M : Mp) (H : Hp) : List (Nat × D) → List (Str × V) → Prop
  | nil : RFs G M H [] []
  | cons {f : Nat} {d : D} {v : V} {l : List (Nat × D)} {xs : List (Str × V)} : f < 33 → RV G M H d v → RFs G M H l xs → RFs G M H ((f, d) :: l) ((nmF f, v) :: xs)
inductive RPs (G : Gx) (M : Mp) (H : Hp) : List (D × D) → List DictEntry → Prop
  | nil : RPs G M H [] []
  | cons {k d : D} {z v : V} {e : DictEntry} {l : List (D × D)} {es : List DictEntry} : RV G M H k z → RelV z e.key → RV G M H d v → RelV v e.val → (e.hash = G.hash k ∧ nK k = true) → RPs G M H l es → RPs G M H ((k, d) :: l) (e :: es)
inductive RKs (G : Gx) (M : Mp) (H : Hp) : List (D × D) → List (Key × V) → Prop
  | nil : RKs G M H [] []
  | int {i : Int} {d : D} {v : V} {l : List (D × D)} {ks : List (Key × V)} : RV G M H d v → RKs G M H l ks → RKs G M H ((.int i, d) :: l) ((.inl i, v) :: ks)
  | str {x : List Nat} {d : D} {v : V} {l : List (D × D)} {ks : List (Key × V)} : RV G M H d v → RKs G M H l ks → RKs G M H ((.str x, d) :: l) ((.inr (tS x), v) :: ks)
inductive RSs (G : Gx) (M : Mp) (H : Hp) : List D → List (Int × Value) → Prop
  | nil : RSs G M H [] []
  | cons {k : D} {z : V} {e : Int × Value} {l : List D} {es : List (Int × Value)} : RV G M H k z → RelV z e.2 → e.1 = G.hash k → RSs G M H l es → RSs G M H (k :: l) (e :: es)
inductive RO (G : Gx) (M : Mp) (H : Hp) : Addr → D → Prop
  | lst {a : Addr} {xs : List D} {vs : List V} : H a = some (.lst vs) → RVs G M H xs vs → RO G M H a (.lst xs)
  | dct {a : Addr} {kvs : List (D × D)} {ks : List (Key × V)} : H a = some (.dK ks) → RKs G M H kvs ks → RO G M H a (.dct kvs)
  | dcn {a : Addr} {kvs : List (D × D)} {es : List DictEntry} {ep : Nat} : H a = some (DicO a es ep (kvs.map fun p => nkey p.1)) → (a == sysModules) = false → kvs.length ≤ sizeLine → RPs G M H kvs es → RO G M H a (.dcn kvs)
  | set {a : Addr} {l : List D} {es : List (Int × Value)} : H a = some (SetO a es) → RSs G M H l es → RO G M H a (.set l)
  | ins {a C dx : Addr} {c : Nat} {fs : List (Nat × D)} {vs : List (Str × V)} : isSl c = false → G.mg (nmC c) = some (.ref C) → H a = some (.ins C dx vs) → RFs G M H fs vs → RO G M H a (.ins c fs)
  | sl0 {a C dx : Addr} {c : Nat} : isSl c = true → G.mg (nmC c) = some (.ref C) → H a = some (.ins C dx []) → RO G M H a (.ins c [])
  | sl1 {a C dx : Addr} {c : Nat} {fs : List (Nat × D)} {vs : List (Str × V)} {ws : List (Option V)} : isSl c = true → G.mg (nmC c) = some (.ref C) → H a = some (SlX.SlO a C dx ws) → M.F dx → H dx = some (.xd []) → SlotsOk c vs ws → RFs G M H fs vs → RO G M H a (.ins c fs)
end

/-- what stays from a state to a later one -/
structure Ext (M : Mp) (H : Hp) (M' : Mp) (H' : Hp) : Prop where
  keep : ∀ b o, H b = some o → b ∉ M.bs → Stl o → H' b = some o
  trk : ∀ b, H' b = none → H b = none
  fz : ∀ b, M.F b → M'.F b
  pre : ∃ l, M'.bs = M.bs ++ l ∧ ∀ b ∈ l, H b = none
  newF : ∀ b, M'.F b → M.F b ∨ b ∈ M.bs ∨ H b = none ∨ ∃ y, H b = some y ∧ ¬ Stl y
theorem Ext.refl {M : Mp} {H : Hp} : Ext M H M H := ⟨fun _ _ h _ _ => h, fun _ h => h, fun _ h => h, ⟨[], by simp, by simp⟩, fun _ h => .inl h⟩
theorem not_own {H : Hp} {b : Addr} : (∃ y, H b = some y ∧ ¬ Stl y) ∨ ∀ o, H b = some o → Stl o := by
  by_cases h : ∃ y, H b = some y ∧ ¬ Stl y
  · exact .inl h
  · exact .inr fun o e => Classical.byContradiction fun z => h ⟨o, e, z⟩
theorem Ext.off {M M' : Mp} {H H' : Hp} (e : Ext M H M' H') {b : Addr} {o : HO} (h : H b = some o) (n : b ∉ M.bs) : b ∉ M'.bs := by
  obtain ⟨l, e1, e2⟩ := e.pre
  rw [e1]
  intro z
  rcases List.mem_append.mp z with z | z
  · exact n z
  · rw [e2 b z] at h; cases h
theorem Ext.mem {M M' : Mp} {H H' : Hp} (e : Ext M H M' H') {b : Addr} (h : b ∈ M.bs) : b ∈ M'.bs := by
  obtain ⟨l, e1, _⟩ := e.pre
  rw [e1]; exact List.mem_append_left _ h
theorem Ext.get {M M' : Mp} {H H' : Hp} (e : Ext M H M' H') {i : Nat} {b : Addr} (h : M.bs[i]? = some b) : M'.bs[i]? = some b := by
  obtain ⟨l, e1, _⟩ := e.pre
  rw [e1, List.getElem?_append_left (List.getElem?_eq_some_iff.mp h).1]; exact h
theorem Ext.trans {M M1 M2 : Mp} {H H1 H2 : Hp} (a : Ext M H M1 H1) (b : Ext M1 H1 M2 H2) : Ext M H M2 H2 := by
  have nw : ∀ c, c ∈ M1.bs → c ∈ M.bs ∨ H c = none := fun c h => by
    obtain ⟨l, e1, e2⟩ := a.pre
    rw [e1] at h
    rcases List.mem_append.mp h with z | z
    · exact .inl z
    · exact .inr (e2 c z)
  refine ⟨fun c o h n y => b.keep c o (a.keep c o h n y) (a.off h n) y, fun c h => a.trk c (b.trk c h), fun c h => b.fz c (a.fz c h), ?_, fun c h => ?_⟩
  · obtain ⟨l, e1, e2⟩ := a.pre
    obtain ⟨m, f1, f2⟩ := b.pre
    refine ⟨l ++ m, by rw [f1, e1, List.append_assoc], fun c hc => ?_⟩
    rcases List.mem_append.mp hc with z | z
    · exact e2 c z
    · exact a.trk c (f2 c z)
  · rcases b.newF c h with z | z | z | ⟨y, z⟩
    · exact a.newF c z
    · rcases nw c z with z | z
      · exact .inr (.inl z)
      · exact .inr (.inr (.inl z))
    · exact .inr (.inr (.inl (a.trk c z)))
    · obtain ⟨z, ns⟩ := z
      rcases not_own (H := H) (b := c) with q | q
      · exact .inr (.inr (.inr q))
      · cases e : H c with
        | none => exact .inr (.inr (.inl rfl))
        | some o =>
          by_cases n : c ∈ M.bs
          · exact .inr (.inl n)
          · have := a.keep c o e n (q o e)
            rw [z] at this; cases this
            exact absurd (q _ e) ns

/-- the heap of things is borne -/
structure RL (G : Gx) (h : Hh) (M : Mp) (H : Hp) : Prop where
  len : h.length = M.bs.length
  at_ : ∀ (i : Nat) (o : D), h[i]? = some o → ∃ a, M.bs[i]? = some a ∧ RO G M H a o
  nd : M.bs.Nodup
  off : ∀ a ∈ M.bs, ¬ M.F a
  fz : ∀ a, M.F a → ∃ o, H a = some o ∧ Stl o
  tb : ∀ q ∈ G.T, ∃ ps : Array Value, H q.1 = some (.tbl ps) ∧ TriplesOk ps.toList ∧ ∀ (pos : Pos) (cv : Value), codeAmong pos ps.toList = some cv → ∃ c, cv = .ref c ∧ M.F c ∧ H c = some (LamX.CodeO c (q.2 pos.line pos.col))
/-- what is kept for later stays -/
structure Gk (G : Gx) : Prop where
  hc : ∀ {F F' : Addr → Prop} {H H' : Hp}, (∀ a, F a → F' a ∧ ∀ o, H a = some o → H' a = some o) → ∀ i l v, G.hc F H i l v → G.hc F' H' i l v
  hx : ∀ {F F' : Addr → Prop} {H H' : Hp}, (∀ a, F a → F' a ∧ ∀ o, H a = some o → H' a = some o) → ∀ C d v, G.hx F H C d v → G.hx F' H' C d v
  nc : ∀ F H i l, ¬ G.hc F H i l .non
  nx : ∀ F H C d, ¬ G.hx F H C d .non

/-- what values lean on stays -/
structure Keep (M : Mp) (H : Hp) (M' : Mp) (H' : Hp) : Prop where
  k : ∀ a, M.F a → M'.F a ∧ ∀ o, H a = some o → H' a = some o
  b : ∀ (i : Nat) a, M.bs[i]? = some a → M'.bs[i]? = some a
theorem Ext.kp {G : Gx} {h : Hh} {M M' : Mp} {H H' : Hp} (r : RL G h M H) (e : Ext M H M' H') : Keep M H M' H' := ⟨fun a ha => ⟨e.fz a ha, fun o q => by
  obtain ⟨u, q', y⟩ := r.fz a ha
  rw [q] at q'; cases q'
  exact e.keep a o q (fun z => r.off a z ha) y⟩, fun i a => e.get⟩
theorem Keep.refl {M : Mp} {H : Hp} : Keep M H M H := ⟨fun a h => ⟨h, fun _ z => z⟩, fun _ _ h => h⟩
section
variable {G : Gx} {M M' : Mp} {H H' : Hp} {a : Addr}
theorem TupAt.keep {xs : List V} (e : Keep M H M' H') (h : TupAt G M.F H a xs) : TupAt G M'.F H' a xs := by
  rcases h with ⟨h, n⟩ | h
  · exact .inl ⟨(e.k a h).1, (e.k a h).2 _ n⟩
  · exact .inr h
theorem LscAt.keep {xs : List V} (e : Keep M H M' H') (h : LscAt G M.F H a xs) : LscAt G M'.F H' a xs := by
  rcases h with ⟨h, o, n⟩ | h
  · exact .inl ⟨(e.k a h).1, o, (e.k a h).2 _ n⟩
  · exact .inr h
mutual
theorem RV.keep (gk : Gk G) (e : Keep M H M' H') : ∀ {d : D} {v : V}, RV G M H d v → RV G M' H' d v
  | _, _, .non => .non
  | _, _, .bl b => .bl b
  | _, _, .int i => .int i
  | _, _, .str x => .str x
  | _, _, .ty n => .ty n
  | _, _, .tup h r => .tup (h.keep e) (RVs.keep gk e r)
  | _, _, .scr h r => .scr (h.keep e) (RVs.keep gk e r)
  | _, _, .lst h r => .lst (e.k _ h).1 (RO.keep gk e (e.k _ h).2 r)
  | _, _, .dct h q r => .dct (e.k _ h).1 ((e.k _ h).2 _ q) (RKs.keep gk e r)
  | _, _, .dcn h r => .dcn (e.k _ h).1 (RO.keep gk e (e.k _ h).2 r)
  | _, _, .set h r => .set (e.k _ h).1 (RO.keep gk e (e.k _ h).2 r)
  | _, _, .ins h r => .ins (e.k _ h).1 (RO.keep gk e (e.k _ h).2 r)
  | _, _, .ref h => .ref (e.b _ _ h)
  | _, _, .gl h => .gl h
  | _, _, .clo h r => .clo (gk.hc e.k _ _ _ h) (RVs.keep gk e r)
  | _, _, .exc m h d n r => .exc m (gk.hx e.k _ _ _ h) (fun x q => ⟨(e.k _ (d x q).1).1, (e.k _ (d x q).1).2 _ (d x q).2⟩) n (RFs.keep gk e r)
theorem RVs.keep (gk : Gk G) (e : Keep M H M' H') : ∀ {l : List D} {xs : List V}, RVs G M H l xs → RVs G M' H' l xs
  | _, _, .nil => .nil
  | _, _, .cons h t => .cons (RV.keep gk e h) (RVs.keep gk e t)
theorem RFs.keep (gk : Gk G) (e : Keep M H M' H') : ∀ {l : List (Nat × D)} {xs : List (Str × V)}, RFs G M H l xs → RFs G M' H' l xs
  | _, _, .nil => .nil
  | _, _, .cons n h t => .cons n (RV.keep gk e h) (RFs.keep gk e t)
theorem RPs.keep (gk : Gk G) (e : Keep M H M' H') : ∀ {l : List (D × D)} {xs : List DictEntry}, RPs G M H l xs → RPs G M' H' l xs
  | _, _, .nil => .nil
  | _, _, .cons k q d s g t => .cons (RV.keep gk e k) q (RV.keep gk e d) s g (RPs.keep gk e t)
theorem RKs.keep (gk : Gk G) (e : Keep M H M' H') : ∀ {l : List (D × D)} {xs : List (Key × V)}, RKs G M H l xs → RKs G M' H' l xs
  | _, _, .nil => .nil
  | _, _, .int d t => .int (RV.keep gk e d) (RKs.keep gk e t)
  | _, _, .str d t => .str (RV.keep gk e d) (RKs.keep gk e t)
theorem RSs.keep (gk : Gk G) (e : Keep M H M' H') : ∀ {l : List D} {xs : List (Int × Value)}, RSs G M H l xs → RSs G M' H' l xs
  | _, _, .nil => .nil
  | _, _, .cons k q g t => .cons (RV.keep gk e k) q g (RSs.keep gk e t)
theorem RO.keep (gk : Gk G) (e : Keep M H M' H') : ∀ {a : Addr} {o : D}, (∀ u, H a = some u → H' a = some u) → RO G M H a o → RO G M' H' a o
  | _, _, s, .lst h r => .lst (s _ h) (RVs.keep gk e r)
  | _, _, s, .dct h r => .dct (s _ h) (RKs.keep gk e r)
  | _, _, s, .dcn h m n r => .dcn (s _ h) m n (RPs.keep gk e r)
  | _, _, s, .set h r => .set (s _ h) (RSs.keep gk e r)
  | _, _, s, .ins i m h r => .ins i m (s _ h) (RFs.keep gk e r)
  | _, _, s, .sl0 i m h => .sl0 i m (s _ h)
  | _, _, s, .sl1 i m h f x o r => .sl1 i m (s _ h) (e.k _ f).1 ((e.k _ f).2 _ x) o (RFs.keep gk e r)
end
theorem RVs.length : ∀ {l : List D} {xs : List V}, RVs G M H l xs → l.length = xs.length
  | _, _, .nil => rfl
  | _, _, .cons _ t => by simp [RVs.length t]
theorem RVs.get : ∀ {l : List D} {xs : List V} {i : Nat} {d : D}, RVs G M H l xs → l[i]? = some d → ∃ v, xs[i]? = some v ∧ RV G M H d v
  | _, _, _, _, .nil, h => by simp at h
  | _, _, 0, _, .cons h _, e => by simp at e; subst e; exact ⟨_, rfl, h⟩
  | _, _, i + 1, _, .cons _ t, e => by
    obtain ⟨v, h1, h2⟩ := RVs.get (i := i) t (by simpa using e)
    exact ⟨v, by simpa using h1, h2⟩
theorem RVs.getV : ∀ {l : List D} {xs : List V} {i : Nat} {v : V}, RVs G M H l xs → xs[i]? = some v → ∃ d, l[i]? = some d ∧ RV G M H d v
  | _, _, _, _, .nil, h => by simp at h
  | _, _, 0, _, .cons h _, e => by simp at e; subst e; exact ⟨_, rfl, h⟩
  | _, _, i + 1, _, .cons _ t, e => by
    obtain ⟨v, h1, h2⟩ := RVs.getV (i := i) t (by simpa using e)
    exact ⟨v, by simpa using h1, h2⟩
theorem RVs.append : ∀ {l m : List D} {xs ys : List V}, RVs G M H l xs → RVs G M H m ys → RVs G M H (l ++ m) (xs ++ ys)
  | _, _, _, _, .nil, s => s
  | _, _, _, _, .cons h t, s => .cons h (RVs.append t s)
theorem RVs.set {d : D} {v : V} (r : RV G M H d v) : ∀ {l : List D} {xs : List V} (i : Nat), RVs G M H l xs → RVs G M H (l.set i d) (xs.set i v)
  | _, _, _, .nil => .nil
  | _, _, 0, .cons _ t => .cons r t
  | _, _, i + 1, .cons h t => .cons h (RVs.set r i t)
theorem RVs.take : ∀ {l : List D} {xs : List V} (n : Nat), RVs G M H l xs → RVs G M H (l.take n) (xs.take n)
  | _, _, 0, _ => by simpa using RVs.nil
  | _, _, _ + 1, .nil => .nil
  | _, _, n + 1, .cons h t => .cons h (RVs.take n t)
theorem RVs.drop : ∀ {l : List D} {xs : List V} (n : Nat), RVs G M H l xs → RVs G M H (l.drop n) (xs.drop n)
  | _, _, 0, r => by simpa using r
  | _, _, _ + 1, .nil => .nil
  | _, _, n + 1, .cons _ t => RVs.drop n t
theorem RVs.rev : ∀ {l : List D} {xs : List V}, RVs G M H l xs → RVs G M H l.reverse xs.reverse
  | _, _, .nil => .nil
  | _, _, .cons h t => by simpa using (RVs.rev t).append (.cons h .nil)
theorem RVs.ofInts : ∀ (ns : List Int), RVs G M H (ns.map D.int) (ns.map V.int)
  | [] => .nil
  | n :: ns => .cons (.int n) (RVs.ofInts ns)
theorem RFs.look : ∀ {l : List (Nat × D)} {xs : List (Str × V)} {f : Nat} {d : D}, RFs G M H l xs → f < 33 → l.lookup f = some d → ∃ v, xs.lookup (nmF f) = some v ∧ RV G M H d v
  | _, _, _, _, .nil, _, h => by simp at h
  | _, _, f, _, .cons (f := g) n h t, hf, e => by
    simp only [List.lookup_cons] at e ⊢
    cases q : f == g with
    | true => rw [q] at e; cases e; rw [eq_of_beq q]; simp only [beq_self_eq_true]; exact ⟨_, rfl, h⟩
    | false =>
      rw [q] at e
      have : (nmF f == nmF g) = false := by
        rw [beq_eq_false_iff_ne]
        intro z
        rw [nmF_inj hf n z] at q
        simp at q
      rw [this]
      exact RFs.look t hf e
theorem RFs.bound : ∀ {l : List (Nat × D)} {xs : List (Str × V)} {f : Nat} {d : D}, RFs G M H l xs → l.lookup f = some d → f < 33
  | _, _, _, _, .nil, h => by simp at h
  | _, _, f, _, .cons (f := g) n h t, e => by
    simp only [List.lookup_cons] at e
    cases q : f == g with
    | true => rw [eq_of_beq q]; exact n
    | false => rw [q] at e; exact RFs.bound t e
/-- a thing that is borne is tracked -/
theorem RO.some {o : D} (h : RO G M H a o) : ∃ u, H a = some u ∧ Stl u := by
  cases h with
  | lst h _ => exact ⟨_, h, trivial⟩
  | dct h _ => exact ⟨_, h, trivial⟩
  | dcn h _ _ _ => exact ⟨_, h, trivial⟩
  | set h _ => exact ⟨_, h, trivial⟩
  | ins _ _ h _ => exact ⟨_, h, trivial⟩
  | sl0 _ _ h => exact ⟨_, h, trivial⟩
  | sl1 _ _ h _ _ _ _ => exact ⟨_, h, trivial⟩
end
section
variable {G : Gx} {h : Hh} {M M' : Mp} {H H' : Hp} {a p : Addr}
theorem RV.ext (gk : Gk G) {d : D} {v : V} (r : RL G h M H) (e : Ext M H M' H') (x : RV G M H d v) : RV G M' H' d v := x.keep gk (e.kp r)
theorem RVs.ext (gk : Gk G) {d : List D} {v : List V} (r : RL G h M H) (e : Ext M H M' H') (x : RVs G M H d v) : RVs G M' H' d v := x.keep gk (e.kp r)
theorem RL.tracked (r : RL G h M H) (x : a ∈ M.bs) : ∃ u, H a = some u ∧ Stl u := by
  obtain ⟨i, hi⟩ := List.mem_iff_getElem?.mp x
  have hlt := (List.getElem?_eq_some_iff.mp hi).1
  rw [← r.len] at hlt
  obtain ⟨b, hb, ro⟩ := r.at_ i (h[i]) (by simp)
  rw [hi] at hb; cases hb
  exact ro.some
theorem RL.free (r : RL G h M H) (x : H a = none) : a ∉ M.bs := fun z => by
  obtain ⟨u, e, _⟩ := r.tracked z
  rw [x] at e; cases e
theorem RL.freeF (r : RL G h M H) (x : H a = none) : ¬ M.F a := fun z => by
  obtain ⟨o, e, _⟩ := r.fz a z
  rw [x] at e; cases e
theorem RL.look (r : RL G h M H) {i : Nat} {o : D} (x : h[i]? = some o) (y : M.bs[i]? = some a) : RO G M H a o := by
  obtain ⟨b, hb, ro⟩ := r.at_ i o x
  rw [y] at hb; cases hb
  exact ro
theorem tb_up {T : List NdefX.NTab} {F F' : Addr → Prop} {H H' : Hp} (hF : ∀ c, F c → F' c) (ht : ∀ b ps, H b = some (.tbl ps) → H' b = some (.tbl ps)) (hc : ∀ b u, H b = some u → F b → H' b = some u)
    (h : ∀ q ∈ T, ∃ ps : Array Value, H q.1 = some (.tbl ps) ∧ TriplesOk ps.toList ∧ ∀ (pos : Pos) (cv : Value), codeAmong pos ps.toList = some cv → ∃ c, cv = .ref c ∧ F c ∧ H c = some (LamX.CodeO c (q.2 pos.line pos.col))) :
    ∀ q ∈ T, ∃ ps : Array Value, H' q.1 = some (.tbl ps) ∧ TriplesOk ps.toList ∧ ∀ (pos : Pos) (cv : Value), codeAmong pos ps.toList = some cv → ∃ c, cv = .ref c ∧ F' c ∧ H' c = some (LamX.CodeO c (q.2 pos.line pos.col)) := fun q hq => by
  obtain ⟨ps, h1, h2, h3⟩ := h q hq
  refine ⟨ps, ht _ _ h1, h2, fun pos cv e => ?_⟩
  obtain ⟨c, e1, e2, e3⟩ := h3 pos cv e
  exact ⟨c, e1, hF c e2, hc c _ e3 e2⟩
def Mp.fr (M : Mp) (a : Addr) : Mp := ⟨fun b => M.F b ∨ b = a, M.bs⟩
/-! a new thing that is written no more -/
theorem Ext.newF' {o : HO} (x : H p = none) : Ext M H (M.fr p) (upd H p o) where
  keep := fun b u e _ _ => by rw [upd_ne (ne_of_none e x)]; exact e
  trk := fun b e => by
    by_cases z : b = p
    · subst z; exact x
    · rw [upd_ne z] at e; exact e
  fz := fun b e => .inl e
  pre := ⟨[], by simp [Mp.fr], by simp⟩
  newF := fun b e => by
    rcases e with e | e
    · exact .inl e
    · subst e; exact .inr (.inr (.inl x))
theorem Keep.newF {o : HO} (x : H p = none) : Keep M H (M.fr p) (upd H p o) := ⟨fun a q => ⟨.inl q, fun u e => by rw [upd_ne (ne_of_none e x)]; exact e⟩, fun _ _ h => h⟩
theorem Keep.new {o : HO} (x : H p = none) : Keep M H M (upd H p o) := ⟨fun a q => ⟨q, fun u e => by rw [upd_ne (ne_of_none e x)]; exact e⟩, fun _ _ h => h⟩
theorem RL.newF (gk : Gk G) {o : HO} (r : RL G h M H) (x : H p = none) (ho : Stl o) : RL G h (M.fr p) (upd H p o) where
  len := r.len
  at_ := fun i u e => by
    obtain ⟨b, hb, ro⟩ := r.at_ i u e
    exact ⟨b, hb, ro.keep gk (Keep.newF x) fun w q => by rw [upd_ne (ne_of_none q x)]; exact q⟩
  nd := r.nd
  off := fun b hb z => by
    rcases z with z | z
    · exact r.off b hb z
    · subst z; exact r.free x hb
  fz := fun b e => by
    rcases e with e | e
    · obtain ⟨u, q, y⟩ := r.fz b e
      exact ⟨u, by rw [upd_ne (ne_of_none q x)]; exact q, y⟩
    · subst e; exact ⟨o, upd_same, ho⟩
  tb := tb_up (fun c z => .inl z) (fun b u e => by rw [upd_ne (ne_of_none e x)]; exact e) (fun b u e _ => by rw [upd_ne (ne_of_none e x)]; exact e) r.tb
/-- a thing that is tracked and loose is written no more from here on -/
theorem RL.adoptF (gk : Gk G) {o : HO} (r : RL G h M H) (n : p ∉ M.bs) (e : H p = some o) (ho : Stl o) : RL G h (M.fr p) H where
  len := r.len
  at_ := fun i u q => by
    obtain ⟨b, hb, ro⟩ := r.at_ i u q
    exact ⟨b, hb, ro.keep gk (M' := M.fr p) ⟨fun a z => ⟨Or.inl z, fun _ w => w⟩, fun _ _ w => w⟩ fun _ w => w⟩
  nd := r.nd
  off := fun b hb z => by
    rcases z with z | z
    · exact r.off b hb z
    · subst z; exact n hb
  fz := fun b z => by
    rcases z with z | z
    · exact r.fz b z
    · subst z; exact ⟨o, e, ho⟩
  tb := tb_up (fun c z => .inl z) (fun b u e => e) (fun b u e _ => e) r.tb
/-- a thing that is tracked and loose comes to the heap -/
def Mp.pu (M : Mp) (a : Addr) : Mp := ⟨M.F, M.bs ++ [a]⟩
theorem Keep.pu : Keep M H (M.pu p) H := ⟨fun a z => ⟨z, fun _ w => w⟩, fun i a w => by
  show (M.bs ++ [p])[i]? = _
  rw [List.getElem?_append_left (List.getElem?_eq_some_iff.mp w).1]; exact w⟩
theorem RL.adopt (gk : Gk G) {u : D} (r : RL G h M H) (n : p ∉ M.bs) (nf : ¬ M.F p) (ro : RO G M H p u) : RL G (h ++ [u]) (M.pu p) H where
  len := by simp [Mp.pu, r.len]
  at_ := fun i w e => by
    by_cases hi : i < h.length
    · rw [List.getElem?_append_left hi] at e
      obtain ⟨b, hb, ro'⟩ := r.at_ i w e
      exact ⟨b, Keep.pu.b (H := H) _ _ hb, ro'.keep gk Keep.pu fun _ w => w⟩
    · rw [List.getElem?_append_right (by omega)] at e
      have h0 : i - h.length = 0 := by
        cases q : i - h.length with
        | zero => rfl
        | succ m => rw [q] at e; simp at e
      rw [h0] at e
      simp at e
      subst e
      refine ⟨p, ?_, ro.keep gk Keep.pu fun _ w => w⟩
      show (M.bs ++ [p])[i]? = _
      rw [List.getElem?_append_right (by rw [← r.len]; omega), ← r.len, h0]; rfl
  nd := by
    show (M.bs ++ [p]).Nodup
    rw [List.nodup_append]
    refine ⟨r.nd, by simp, fun a ha b hb => ?_⟩
    simp at hb; subst hb
    exact fun z => n (z ▸ ha)
  off := fun b hb z => by
    rcases List.mem_append.mp hb with w | w
    · exact r.off b w z
    · simp at w; subst w; exact nf z
  fz := r.fz
  tb := r.tb
/-- a thing of the heap is changed -/
theorem Keep.chg {o : HO} (r : RL G h M H) (x : p ∈ M.bs) : Keep M H M (upd H p o) := ⟨fun a q => ⟨q, fun u e => by
  have z : a ≠ p := fun z => r.off p x (by rw [← z]; exact q)
  rw [upd_ne z]; exact e⟩, fun _ _ h => h⟩
theorem Ext.chg {o : HO} (x : p ∈ M.bs) : Ext M H M (upd H p o) where
  keep := fun b w e n _ => by
    have hb : b ≠ p := fun z => n (z ▸ x)
    rw [upd_ne hb]; exact e
  trk := fun b e => by
    by_cases z : b = p
    · subst z; rw [upd_same] at e; cases e
    · rw [upd_ne z] at e; exact e
  fz := fun b e => e
  pre := ⟨[], by simp, by simp⟩
  newF := fun b e => .inl e
theorem RL.chg (gk : Gk G) {o : HO} {u : D} {i : Nat} (r : RL G h M H) (x : M.bs[i]? = some p) (ro : RO G M (upd H p o) p u) : RL G (h.set i u) M (upd H p o) where
  len := by simp [r.len]
  at_ := fun j w e => by
    by_cases z : j = i
    · subst z
      have hj : j < h.length := by rw [r.len]; exact (List.getElem?_eq_some_iff.mp x).1
      rw [List.getElem?_set_self hj] at e
      cases e
      exact ⟨p, x, ro⟩
    · rw [List.getElem?_set_ne (Ne.symm z)] at e
      obtain ⟨b, hb, ro'⟩ := r.at_ j w e
      have hne : b ≠ p := fun q => by
        subst q
        have h1 := List.getElem?_eq_some_iff.mp hb
        have h2 := List.getElem?_eq_some_iff.mp x
        exact z ((List.getElem_inj r.nd (h₀ := h1.1) (h₁ := h2.1)).mp (h1.2.trans h2.2.symm))
      exact ⟨b, hb, ro'.keep gk (Keep.chg r (List.mem_iff_getElem?.mpr ⟨i, x⟩)) fun w q => by rw [upd_ne hne]; exact q⟩
  nd := r.nd
  off := r.off
  fz := fun a e => by
    obtain ⟨w, q, y⟩ := r.fz a e
    have z : a ≠ p := fun z => by subst z; exact r.off a (List.mem_iff_getElem?.mpr ⟨i, x⟩) e
    exact ⟨w, by rw [upd_ne z]; exact q, y⟩
  tb := by
    have hp := List.mem_iff_getElem?.mpr ⟨i, x⟩
    obtain ⟨w, qw, yw⟩ := r.tracked hp
    refine tb_up (fun c z => z) (fun b u e => ?_) (fun b u e hb => ?_) r.tb
    · have z : b ≠ p := fun z => by subst z; rw [qw] at e; cases e; exact yw
      rw [upd_ne z]; exact e
    · have z : b ≠ p := fun z => by subst z; exact r.off b hp hb
      rw [upd_ne z]; exact e
/-- what is neither of the heap nor written no more may be changed -/
theorem Keep.poke {o : HO} (n : ¬ M.F p) : Keep M H M (upd H p o) := ⟨fun a q => ⟨q, fun u e => by
  have z : a ≠ p := fun z => n (by rw [← z]; exact q)
  rw [upd_ne z]; exact e⟩, fun _ _ h => h⟩
theorem RL.poke (gk : Gk G) {o : HO} (r : RL G h M H) (n : p ∉ M.bs) (nf : ¬ M.F p) (nt : ∀ ps, H p ≠ some (.tbl ps)) : RL G h M (upd H p o) where
  len := r.len
  at_ := fun i u e => by
    obtain ⟨b, hb, ro⟩ := r.at_ i u e
    refine ⟨b, hb, ro.keep gk (Keep.poke nf) fun u q => ?_⟩
    have z : b ≠ p := fun z => n (z ▸ List.mem_iff_getElem?.mpr ⟨i, hb⟩)
    rw [upd_ne z]; exact q
  nd := r.nd
  off := r.off
  fz := fun a e => by
    obtain ⟨w, q, y⟩ := r.fz a e
    have z : a ≠ p := fun z => nf (by rw [← z]; exact e)
    exact ⟨w, by rw [upd_ne z]; exact q, y⟩
  tb := by
    refine tb_up (fun c z => z) (fun b u e => ?_) (fun b u e hb => ?_) r.tb
    · have z : b ≠ p := fun z => by subst z; exact nt _ e
      rw [upd_ne z]; exact e
    · have z : b ≠ p := fun z => by subst z; exact nf hb
      rw [upd_ne z]; exact e
theorem nt_none (e : H p = none) : ∀ ps, H p ≠ some (.tbl ps) := fun ps z => by rw [e] at z; cases z
theorem nt_some {o : HO} (e : H p = some o) (s : Stl o) : ∀ ps, H p ≠ some (.tbl ps) := fun ps z => by rw [e] at z; cases z; exact s
end
end Pf

set_option Elab.async false
set_option linter.all false
set_option maxRecDepth 100000
/-! ## What a text computes: results, judgements, bundles -/
namespace Pf
open PySem L2

/-! ### names -/
inductive Sl where
  | un | pl (d : D) | ow (d : D)
abbrev Rho := List Sl
structure RE (G : Gx) (M : Mp) (H : Hp) (r : Rho) (σ : St) : Prop where
  len : r.length = σ.length
  pl : ∀ (i : Nat) (d : D), r[i]? = some (Sl.pl d) → ∃ v, σ[i]? = some (some v) ∧ RV G M H d v
  ow : ∀ (i : Nat) (d : D), r[i]? = some (Sl.ow d) → ∃ a, σ[i]? = some (some (V.ref a)) ∧ RO G M H a d ∧ a ∉ M.bs ∧ ¬ M.F a
  one : ∀ (i j : Nat) (d e : D) (a : Addr), r[i]? = some (Sl.ow d) → r[j]? = some (Sl.ow e) → σ[i]? = some (some (V.ref a)) → σ[j]? = some (some (V.ref a)) → i = j
section
variable {G : Gx} {h : Hh} {M M' : Mp} {H H' : Hp} {r : Rho} {σ : St}
theorem RO.ext (gk : Gk G) {a : Addr} {d : D} (rl : RL G h M H) (e : Ext M H M' H') (n : a ∉ M.bs) (x : RO G M H a d) : RO G M' H' a d := by
  obtain ⟨u, q, y⟩ := x.some
  exact x.keep gk (e.kp rl) fun w z => e.keep a w z n (by rw [q] at z; cases z; exact y)
theorem Ext.offF (rl : RL G h M H) (e : Ext M H M' H') {a : Addr} {u : HO} (q : H a = some u) (y : Stl u) (n : a ∉ M.bs) (nf : ¬ M.F a) : ¬ M'.F a := fun z => by
  rcases e.newF a z with w | w | w | ⟨x, w⟩
  · exact nf w
  · exact n w
  · rw [q] at w; cases w
  · rw [q] at w; cases w.1; exact w.2 y
theorem RE.ext (gk : Gk G) (rl : RL G h M H) (e : Ext M H M' H') (x : RE G M H r σ) : RE G M' H' r σ where
  len := x.len
  pl := fun i d q => let ⟨v, a, b⟩ := x.pl i d q; ⟨v, a, b.ext gk rl e⟩
  ow := fun i d q => by
    obtain ⟨a, h1, ro, n, nf⟩ := x.ow i d q
    obtain ⟨u, q1, y⟩ := ro.some
    exact ⟨a, h1, ro.ext gk rl e n, e.off q1 n, e.offF rl q1 y n nf⟩
  one := x.one
theorem RE.set {i : Nat} {d : D} {v : V} (x : RE G M H r σ) (rv : RV G M H d v) : RE G M H (r.set i (.pl d)) (σ.set i (some v)) where
  len := by simp [x.len]
  pl := fun j e q => by
    by_cases z : i = j
    · subst z
      by_cases hi : i < r.length
      · rw [List.getElem?_set_self hi] at q
        cases q
        exact ⟨v, by rw [List.getElem?_set_self (by rw [← x.len]; exact hi)], rv⟩
      · rw [List.getElem?_eq_none (by simpa using hi)] at q; cases q
    · rw [List.getElem?_set_ne z] at q ⊢
      exact x.pl j e q
  ow := fun j e q => by
    by_cases z : i = j
    · subst z
      by_cases hi : i < r.length
      · rw [List.getElem?_set_self hi] at q; cases q
      · rw [List.getElem?_eq_none (by simpa using hi)] at q; cases q
    · rw [List.getElem?_set_ne z] at q ⊢
      exact x.ow j e q
  one := fun j k d e a q1 q2 s1 s2 => by
    by_cases z : i = j
    · subst z
      by_cases hi : i < r.length
      · rw [List.getElem?_set_self hi] at q1; cases q1
      · rw [List.getElem?_eq_none (by simpa using hi)] at q1; cases q1
    by_cases w : i = k
    · subst w
      by_cases hi : i < r.length
      · rw [List.getElem?_set_self hi] at q2; cases q2
      · rw [List.getElem?_eq_none (by simpa using hi)] at q2; cases q2
    rw [List.getElem?_set_ne z] at q1 s1
    rw [List.getElem?_set_ne w] at q2 s2
    exact x.one j k d e a q1 q2 s1 s2
/-- a name forgotten -/
theorem RE.kill {i : Nat} (x : RE G M H r σ) : RE G M H (r.set i .un) σ where
  len := by simp [x.len]
  pl := fun j e q => by
    by_cases z : i = j
    · subst z
      by_cases hi : i < r.length
      · rw [List.getElem?_set_self hi] at q; cases q
      · rw [List.getElem?_eq_none (by simpa using hi)] at q; cases q
    · rw [List.getElem?_set_ne z] at q; exact x.pl j e q
  ow := fun j e q => by
    by_cases z : i = j
    · subst z
      by_cases hi : i < r.length
      · rw [List.getElem?_set_self hi] at q; cases q
      · rw [List.getElem?_eq_none (by simpa using hi)] at q; cases q
    · rw [List.getElem?_set_ne z] at q; exact x.ow j e q
  one := fun j k d e a q1 q2 s1 s2 => by
    have f : ∀ (j : Nat) (e : D), (r.set i .un)[j]? = some (Sl.ow e) → r[j]? = some (Sl.ow e) := fun j e q => by
      by_cases z : i = j
      · subst z
        by_cases hi : i < r.length
        · rw [List.getElem?_set_self hi] at q; cases q
        · rw [List.getElem?_eq_none (by simpa using hi)] at q; cases q
      · rw [List.getElem?_set_ne z] at q; exact q
    exact x.one j k d e a (f j d q1) (f k e q2) s1 s2

/-! ### operands -/
def RB (G : Gx) (M : Mp) (H : Hp) (d : D) (v : V) : Prop := RV G M H d v ∨ ∃ a, v = .ref a ∧ RO G M H a d ∧ a ∉ M.bs
theorem RB.ext (gk : Gk G) {d : D} {v : V} (rl : RL G h M H) (e : Ext M H M' H') (x : RB G M H d v) : RB G M' H' d v := by
  rcases x with x | ⟨a, rfl, ro, n⟩
  · exact .inl (x.ext gk rl e)
  · obtain ⟨u, q, y⟩ := ro.some
    exact .inr ⟨a, rfl, ro.ext gk rl e n, e.off q n⟩
/-- the thing that a value is -/
def vw (h : Hh) : D → Option D
  | .ref i => h[i]?
  | d => some d
def Vd (G : Gx) (M : Mp) (H : Hp) (d : D) (v : V) : Prop := RV G M H d v ∨ ∃ a, v = .ref a ∧ RO G M H a d
theorem vw_ok {d d' : D} {v : V} (rl : RL G h M H) (x : RB G M H d v) (e : vw h d = some d') : Vd G M H d' v := by
  rcases x with x | ⟨a, rfl, ro, n⟩
  · cases d with
    | ref i =>
      cases x with
      | ref q => exact .inr ⟨_, rfl, rl.look e q⟩
    | _ => cases e; exact .inl x
  · cases ro <;> cases e
    · exact .inr ⟨_, rfl, by first | exact .lst ‹_› ‹_›⟩
    · exact .inr ⟨_, rfl, .dct ‹_› ‹_›⟩
    · exact .inr ⟨_, rfl, .dcn ‹_› ‹_› ‹_› ‹_›⟩
    · exact .inr ⟨_, rfl, .set ‹_› ‹_›⟩
    · exact .inr ⟨_, rfl, .ins ‹_› ‹_› ‹_› ‹_›⟩
    · exact .inr ⟨_, rfl, .sl0 ‹_› ‹_› ‹_›⟩
    · exact .inr ⟨_, rfl, .sl1 ‹_› ‹_› ‹_› ‹_› ‹_› ‹_› ‹_›⟩
theorem Vd.thing {d : D} {v : V} (x : Vd G M H d v) (t : match d with | .lst _ => True | .dcn _ => True | .set _ => True | .ins _ _ => True | _ => False) : ∃ a, v = .ref a ∧ RO G M H a d := by
  rcases x with x | x
  · cases x <;> first | exact t.elim | exact ⟨_, rfl, ‹_›⟩
  · exact x
theorem Vd.rv {d : D} {v : V} (x : Vd G M H d v) (t : match d with | .lst _ => False | .dct _ => False | .dcn _ => False | .set _ => False | .ins _ _ => False | _ => True) : RV G M H d v := by
  rcases x with x | ⟨a, rfl, ro⟩
  · exact x
  · cases ro <;> exact t.elim
theorem Vd.dct {l : List (D × D)} {v : V} (x : Vd G M H (.dct l) v) : ∃ a ks, v = .ref a ∧ Rd H a (.dK ks) ∧ RKs G M H l ks := by
  rcases x with x | ⟨a, rfl, ro⟩
  · cases x with
    | dct _ q r => exact ⟨_, _, rfl, .inr ⟨_, q⟩, r⟩
  · cases ro with
    | dct q r => exact ⟨_, _, rfl, .inl q, r⟩
theorem Vd.lst {l : List D} {v : V} (x : Vd G M H (.lst l) v) : ∃ a vs, v = .ref a ∧ H a = some (.lst vs) ∧ RVs G M H l vs := by
  obtain ⟨a, rfl, ro⟩ := x.thing trivial
  cases ro with
  | lst h r => exact ⟨a, _, rfl, h, r⟩
end

/-! ### results -/
inductive Res (α : Type) where
  | ok (a : α) (h : Hh) | exc (c : Nat) (fs : List (Nat × D)) (h : Hh) | no
def Res.bind {α β : Type} (m : Res α) (f : α → Hh → Res β) : Res β := match m with
  | .ok a h => f a h
  | .exc c fs h => .exc c fs h
  | .no => .no
@[simp] theorem bind_ok {α β : Type} {a : α} {h : Hh} {f : α → Hh → Res β} : (Res.ok a h).bind f = f a h := rfl
@[simp] theorem bind_exc {α β : Type} {c : Nat} {fs : List (Nat × D)} {h : Hh} {f : α → Hh → Res β} : (Res.exc c fs h).bind f = .exc c fs h := rfl
@[simp] theorem bind_no {α β : Type} {f : α → Hh → Res β} : (Res.no).bind f = .no := rfl
/-- a value without a further change -/
def ofO {α : Type} (o : Option α) (h : Hh) : Res α := match o with
  | some a => .ok a h
  | none => .no
@[simp] theorem ofO_some {α : Type} {a : α} {h : Hh} : ofO (some a) h = .ok a h := rfl
@[simp] theorem ofO_none {α : Type} {h : Hh} : ofO (none : Option α) h = .no := rfl
abbrev Fsem := List D → Hh → Res D

/-- an exception's class and fields -/
def RX (G : Gx) (M : Mp) (H : Hp) (c : Nat) (fs : List (Nat × D)) (cls : Value) (dx : Option Addr) : Prop :=
  ∃ C, G.mg (nmC c) = some (.ref C) ∧ cls = .ref C ∧ match dx with
    | none => fs = []
    | some d => M.F d ∧ ∃ vs : List (Str × V), H d = some (.xd vs) ∧ RFs G M H fs vs
/-- what follows a result -/
def KG {α β : Type} (Rel : Mp → Hp → α → β → Prop) (G : Gx) (Wx : WX) (σ : St) (M : Mp) (H : Hp) (Qv : β → Hp → Prop) : Res α → Prop
  | .ok d h' => ∀ v M' H', Ext M H M' H' → RL G h' M' H' → Rel M' H' d v → Qv v H'
  | .exc c fs h' => ∀ cls dx M' H', Ext M H M' H' → RL G h' M' H' → RX G M' H' c fs cls dx → Wx cls dx σ H'
  | .no => False
section
variable {α β α' β' : Type} {Rel : Mp → Hp → α → β → Prop} {Rel' : Mp → Hp → α' → β' → Prop} {G : Gx} {Wx : WX} {σ : St} {h : Hh} {M M' : Mp} {H H' : Hp} {Qv : β → Hp → Prop} {m : Res α}
theorem KG.back (e : Ext M H M' H') (k : KG Rel G Wx σ M H Qv m) : KG Rel G Wx σ M' H' Qv m := by
  cases m with
  | ok d h' => exact fun v M2 H2 e2 => k v M2 H2 (e.trans e2)
  | exc c fs h' => exact fun cls dx M2 H2 e2 => k cls dx M2 H2 (e.trans e2)
  | no => exact k
theorem KG.imp {Rel2 : Mp → Hp → α → β' → Prop} {Qv' : β' → Hp → Prop} (k : KG Rel G Wx σ M H Qv m) (f : ∀ d v M2 H2 h2, Ext M H M2 H2 → RL G h2 M2 H2 → Rel2 M2 H2 d v → (∀ u, Rel M2 H2 d u → Qv u H2) → Qv' v H2) : KG Rel2 G Wx σ M H Qv' m := by
  cases m with
  | ok d h' => exact fun v M2 H2 e2 r2 q => f d v M2 H2 h' e2 r2 q fun u ru => k u M2 H2 e2 r2 ru
  | exc c fs h' => exact k
  | no => exact k
/-- one thing ahead of others -/
theorem one {m : Res α'} {f : α' → Hh → Res α} {R : β' → Hp → Prop} (k : KG Rel G Wx σ M H Qv (m.bind f))
    (c : ∀ a b h1 M1 H1, Ext M H M1 H1 → RL G h1 M1 H1 → Rel' M1 H1 a b → KG Rel G Wx σ M1 H1 Qv (f a h1) → R b H1) : KG Rel' G Wx σ M H R m := by
  cases m with
  | ok d h' => exact fun v M2 H2 e2 r2 q => c d v h' M2 H2 e2 r2 q (KG.back e2 k)
  | exc x fs h' => exact k
  | no => exact k
theorem KG.here {a : α} {b : β} (k : KG Rel G Wx σ M H Qv (.ok a h)) (rl : RL G h M H) (r : Rel M H a b) : Qv b H := k b M H Ext.refl rl r
end
/-- a pure answer z -/
def KP (G : Gx) (h : Hh) (M : Mp) (H : Hp) (z : D) (Qv : VK) : Prop := ∀ v M' H', Ext M H M' H' → RL G h M' H' → RV G M' H' z v → Qv v H'
section
variable {G : Gx} {h : Hh} {M : Mp} {H : Hp} {Qv : VK}
theorem KP.here {z : D} {v : V} (k : KP G h M H z Qv) (rl : RL G h M H) (r : RV G M H z v) : Qv v H := k v M H Ext.refl rl r
theorem KP.newList (gk : Gk G) {xs : List D} {vs : List V} (k : KP G h M H (.lst xs) Qv) (rl : RL G h M H) (rv : RVs G M H xs vs) (p : Addr) (hp : H p = none) : Qv (.ref p) (upd H p (.lst vs)) :=
  k _ _ _ (Ext.newF' hp) (rl.newF gk hp trivial) (.lst (.inr rfl) (.lst upd_same (rv.keep gk (Keep.newF hp))))
theorem KP.newTup (gk : Gk G) {xs : List D} {vs : List V} (k : KP G h M H (.tup xs) Qv) (rl : RL G h M H) (rv : RVs G M H xs vs) (p : Addr) (hp : H p = none) : Qv (.ref p) (upd H p (.tup vs)) :=
  k _ _ _ (Ext.newF' hp) (rl.newF gk hp trivial) (.tup (.inl ⟨.inr rfl, upd_same⟩) (rv.keep gk (Keep.newF hp)))
end

/-! ### the look at a text -/
structure Ck where
  N : List Str
  sc : Scope
  blk : Bool
def visB (ck : Ck) (x : Str) : Bool := match ck.sc.names.lookup x with
  | some .local => true | some .cell => true | some .free => true
  | _ => false
def globB (ck : Ck) (x : Str) : Bool := (match ck.sc.names.lookup x with
  | some .globalImplicit => true
  | _ => false) && !(x == ("__debug__" : Str)) && !(x == ("__name__" : Str))
def stB (ck : Ck) (x : Str) : Bool := match ck.sc.names.lookup x with
  | some .local => true
  | some .cell => !ck.blk
  | _ => false
def atB (ck : Ck) (i : Nat) (x : Str) : Bool := decide (ck.N[i]? = some x)
def notSet : Expr → Bool
  | .Set _ _ _ => false
  | _ => true
def notSlice : Expr → Bool
  | .Slice _ _ _ _ => false
  | _ => true
def notStar : Expr → Bool
  | .Starred _ _ => false
  | _ => true
def plainBase : Expr → Bool
  | .Call _ _ _ _ => false
  | _ => true
def plainTest : Expr → Bool
  | .UnaryOp .Not _ _ => false
  | .BoolOp _ _ _ => false
  | .IfExp _ _ _ _ => false
  | .Compare _ _ _ _ => false
  | _ => true
/-- where a text stands: what it leans on -/
structure Tb where
  P : Program
  w : World
  G : Gx
  base : Heap
  k : Nat
/-- a def's answers, lifted to the layer -/
def lift (G : Gx) (F : Fsem) : L2.Sp := fun vs H Qv Ev => ∃ ds h M, RL G h M H ∧ RVs G M H ds vs ∧ KG (RV G) G (fun cls dx _ H' => Ev cls dx H') [] M H Qv (F ds h)
def FnL (t : Tb) (f : Str) (F : Fsem) : Prop :=
  ∃ (a : Addr) (fd : FuncData) (ps : List Str), t.G.mg f = some (.ref a) ∧ PySem.W.keepIn t.G.K (.ref a) = true ∧ Binds t.G.K fd ps [] ∧ FnOk t.P t.w t.G.K t.G.mg t.base (CX t.P t.w) t.k a fd ps (lift t.G F)
def GvL (t : Tb) (x : Str) (d : D) : Prop := ∃ u v, t.G.mg x = some u ∧ RelV v u ∧ ∀ M H, RV t.G M H d v
def BtL (t : Tb) (x : Str) : Prop := t.G.mg x = none
structure Cok (X : Cx) (G : Gx) (ck : Ck) (k : Nat) (Wx : WX) : Prop where
  hK : G.K = X.K
  hmg : G.mg = X.mg
  hN : X.N = ck.N
  hsc : X.env.scope = ck.sc
  calm : X.calm = true
  nd : X.N.Nodup
  room : Room (k + 2) X.A
  tk : Takes X Wx
  own : PassesOwn (model X.prog X.w) X.A X.env X.xe
  fn : ck.blk = false → ∀ x, X.fn x = true
  gk : Gk G
abbrev tbOf (X : Cx) (G : Gx) (k : Nat) : Tb := ⟨X.prog, X.w, G, X.base, k⟩

/-! ### bundles -/
def tG {α β : Type} (Rel : Mp → Hp → α → β → Prop) (G : Gx) (Wx : WX) (sem : Rho → Hh → Res α) : St → Hp → (β → Hp → Prop) → Prop := fun σ H Qv => ∃ r h M, RL G h M H ∧ RE G M H r σ ∧ KG Rel G Wx σ M H Qv (sem r h)
/-- an expression: what it computes, the look at its text, what it leans on, and that this is so -/
structure Xp where
  sem : Rho → Hh → Res D
  ok : Ck → Expr → Bool
  need : Tb → Prop
  star : ∀ ck a, ok ck a = true → notStar a = true
  snd : ∀ {X : Cx} {G : Gx} {ck : Ck} {k : Nat} {Wx : WX} {a : Expr}, Cok X G ck k Wx → ok ck a = true → need (tbOf X G k) → PE X a (tG (RV G) G Wx sem)
/-- an operand -/
structure Xo where
  sem : Rho → Hh → Res D
  ok : Ck → Expr → Bool
  need : Tb → Prop
  star : ∀ ck a, ok ck a = true → notStar a = true
  snd : ∀ {X : Cx} {G : Gx} {ck : Ck} {k : Nat} {Wx : WX} {a : Expr}, Cok X G ck k Wx → ok ck a = true → need (tbOf X G k) → PE X a (tG (RB G) G Wx sem)
/-- a test -/
structure Xt where
  sem : Rho → Hh → Res Bool
  ok : Ck → Expr → Bool
  need : Tb → Prop
  snd : ∀ {X : Cx} {G : Gx} {ck : Ck} {k : Nat} {Wx : WX} {a : Expr}, Cok X G ck k Wx → ok ck a = true → need (tbOf X G k) → PT X a (tG (fun _ _ (b c : Bool) => b = c) G Wx sem)
theorem PE.imp {X : Cx} {a : Expr} {t t' : TE} (h : PE X a t) (i : ∀ σ H Q, t' σ H Q → t σ H Q) : PE X a t' := ⟨fun pins s σ H Q I q => h.run pins s σ H Q I (i _ _ _ q)⟩
theorem PT.imp {X : Cx} {a : Expr} {t t' : TT} (h : PT X a t) (i : ∀ σ H Q, t' σ H Q → t σ H Q) : PT X a t' := ⟨fun pins s σ H Q I q => h.run pins s σ H Q I (i _ _ _ q)⟩
theorem PW.imp {X : Cx} {a : Expr} {t t' : TT} (h : PW X a t) (i : ∀ σ H Q, t' σ H Q → t σ H Q) : PW X a t' := ⟨fun wh pins s σ H Q I q => h.run wh pins s σ H Q I (i _ _ _ q)⟩
theorem PA.imp {X : Cx} {a : List Expr} {t t' : TA} (h : PA X a t) (i : ∀ σ H Q, t' σ H Q → t σ H Q) : PA X a t' := ⟨fun pos pins s σ H Q I q => h.run pos pins s σ H Q I (i _ _ _ q)⟩
theorem PTs.imp {X : Cx} {a : List Expr} {t t' : TT} (h : PTs X a t) (i : ∀ σ H Q, t' σ H Q → t σ H Q) : PTs X a t' := ⟨fun pins s σ H Q I q => h.run pins s σ H Q I (i _ _ _ q)⟩
theorem PI.imp {X : Cx} {tg a : Expr} {t t' : TI} (h : PI X tg a t) (i : ∀ σ H Q, t' σ H Q → t σ H Q) : PI X tg a t' := ⟨fun pins s σ H Q I q => h.run pins s σ H Q I (i _ _ _ q)⟩

def Xp.o (e : Xp) : Xo := ⟨e.sem, e.ok, e.need, e.star, fun C h n => PE.imp (e.snd C h n) fun σ H Qv ⟨r, h, M, rl, re, k⟩ => ⟨r, h, M, rl, re, k.imp fun d v M2 H2 h2 _ _ rv f => f v (.inl rv)⟩⟩
end Pf

set_option Elab.async false
set_option linter.all false
set_option maxRecDepth 100000
/-! ## Operations on data -/
namespace Pf
open PySem L2
def line : Nat := 16777216
theorem line_eq : line = sizeLine := by rw [sizeLine_eq]; rfl
mutual
/-- data as the library tells it -/
def pd : D → PyData
  | .non => .none
  | .bl b => .bool b
  | .int i => .int i
  | .str x => .str (tS x)
  | .tup l => .tuple (pds l)
  | .lst l => .list (pds l)
  | .lsc l => .list (pds l)
  | .ty _ => .none | .dct _ => .none | .dcn _ => .none | .set _ => .none | .ins _ _ => .none | .ref _ => .none | .gl _ => .none | .clo _ _ => .none | .exc _ _ => .none
def pds : List D → List PyData
  | [] => []
  | d :: l => pd d :: pds l
end
theorem pds_map : ∀ l : List D, pds l = l.map pd
  | [] => rfl
  | d :: l => by rw [pds, pds_map l]; rfl
/-- flat data of at most such a depth -/
def dep : Nat → D → Bool
  | _, .non => true
  | _, .bl _ => true
  | _, .int _ => true
  | _, .str x => x.all (fun c => decide (c < 1114112))
  | n + 1, .tup l => l.all (dep n)
  | n + 1, .lst l => l.all (dep n)
  | n + 1, .lsc l => l.all (dep n)
  | _, _ => false
theorem dep_succ : ∀ (n : Nat) (d : D), dep n d = true → dep (n + 1) d = true := by
  intro n
  induction n with
  | zero => intro d h; cases d <;> simp [dep] at h ⊢ <;> exact h
  | succ n ih =>
    intro d h
    cases d <;> simp [dep] at h ⊢ <;> first | exact h | exact fun x hx => ih x (h x hx)
theorem dep_le {n m : Nat} (h : n ≤ m) {d : D} (x : dep n d = true) : dep m d = true := by
  induction h with
  | refl => exact x
  | step _ ih => exact dep_succ _ _ ih
theorem canLay_dep : ∀ (n : Nat) (d : D), dep n d = true → (pd d).canLay0 = true ∧ (pd d).depth ≤ n := by
  have ls : ∀ (n : Nat) (l : List D), (∀ d ∈ l, (pd d).canLay0 = true ∧ (pd d).depth ≤ n) → PyData.canLayAll0 (pds l) = true ∧ PyData.depthAll (pds l) ≤ n := by
    intro n l
    induction l with
    | nil => intro _; exact ⟨by simp [pds, PyData.canLayAll0], by simp [pds, PyData.depthAll]⟩
    | cons d l ih =>
      intro h
      obtain ⟨h1, h2⟩ := h d List.mem_cons_self
      obtain ⟨i1, i2⟩ := ih fun x hx => h x (List.mem_cons_of_mem _ hx)
      exact ⟨by simp [pds, PyData.canLayAll0, h1, i1], by simp only [pds, PyData.depthAll]; omega⟩
  intro n
  induction n with
  | zero =>
    intro d h
    cases d <;> simp [dep] at h <;> simp [pd, PyData.canLay0, PyData.depth]
    simpa [PyData.strOk, tS] using h
  | succ n ih =>
    intro d h
    cases d <;> simp [dep] at h <;> simp [pd, PyData.canLay0, PyData.depth]
    · simpa [PyData.strOk, tS] using h
    · exact ls n _ fun d hd => ih d (h d hd)
    · exact ls n _ fun d hd => ih d (h d hd)
    · exact ls n _ fun d hd => ih d (h d hd)
theorem shaped_dep {d : D} (h : dep 60 d = true) : SeqAt.shaped (pd d) = true := by
  obtain ⟨h1, h2⟩ := canLay_dep 60 d h
  unfold SeqAt.shaped
  rw [h1, decide_eq_true (by omega)]; rfl

def mulOk (i j : Int) : Bool := (decide (-(2 ^ 64) < i) && decide (i < 2 ^ 64)) || (decide (-(2 ^ 64) < j) && decide (j < 2 ^ 64))
def powOk (i j : Int) : Bool := decide (0 ≤ j) && decide (j ≤ 1000000) && decide (i.natAbs < 2 ^ 64)
def binE (o : Operator) (a b : D) : Option D :=
  match o, a, b with
  | .Add, .int i, .int j => some (.int (i + j))
  | .Sub, .int i, .int j => some (.int (i - j))
  | .Mult, .int i, .int j => if mulOk i j then some (.int (i * j)) else none
  | .FloorDiv, .int i, .int j => if 0 < j ∧ j < 18446744073709551616 then some (.int (i / j)) else none
  | .Mod, .int i, .int j => if 0 < j then some (.int (i % j)) else none
  | .Pow, .int i, .int j => if powOk i j then some (.int (i ^ j.toNat)) else none
  | .LShift, .int i, .int j => if powOk i j then some (.int (i * 2 ^ j.toNat)) else none
  | .Add, .str x, .str y => if x.length + y.length ≤ line then some (.str (x ++ y)) else none
  | .Add, .tup l, .tup m => if l.length + m.length ≤ line then some (.tup (l ++ m)) else none
  | .Add, .lst l, .lst m => if l.length + m.length ≤ line then some (.lst (l ++ m)) else none
  | _, _, _ => none
def eqE (a b : D) : Option Bool := if dep 60 a && dep 60 b then some (PyData.eqv (pd a) (pd b)) else none
def isNonD : D → Bool
  | .non => true
  | _ => false
def ordOk (a b : D) : Bool := dep 60 a && dep 60 b && PySem.W.alike (pd a) (pd b) && !isNonD a
/-- the items of a sequence -/
def items : D → Option (List D)
  | .tup l => some l
  | .lst l => some l
  | .lsc l => some l
  | _ => none
def inE (a b : D) : Option Bool := (items b).bind fun l => if dep 60 a && l.all (dep 59) then some (l.any fun z => PyData.eqv (pd z) (pd a)) else none
def ltE (a b : D) (f : Int → Int → Bool) (g : PyData → PyData → Bool) : Option Bool :=
  match a, b with
  | .int i, .int j => some (f i j)
  | a, b => if ordOk a b then some (g (pd a) (pd b)) else none
def cmpE (o : CmpOp) (a b : D) : Option Bool :=
  match o with
  | .Eq => eqE a b
  | .NotEq => (eqE a b).map not
  | .Is => if isNonD b then some (isNonD a) else none
  | .IsNot => if isNonD b then some (!isNonD a) else none
  | .Lt => ltE a b (fun i j => decide (i < j)) fun d e => PySem.W.dataLt d e
  | .LtE => ltE a b (fun i j => decide (i ≤ j)) fun d e => !PySem.W.dataLt e d
  | .Gt => ltE a b (fun i j => decide (j < i)) fun d e => PySem.W.dataLt e d
  | .GtE => ltE a b (fun i j => decide (j ≤ i)) fun d e => !PySem.W.dataLt d e
  | .In => inE a b
  | .NotIn => (inE a b).map not
def ixE (a i : D) : Option D := match i with
  | .int k => (items a).bind fun l => atI l k
  | _ => none
def cutD (xs : List D) (lo hi : Option Int) : List D := (xs.drop (HT.sIx xs.length 0 lo)).take (HT.sIx xs.length xs.length hi - HT.sIx xs.length 0 lo)
def slE (a : D) (lo hi : Option Int) : Option D := match a with
  | .tup l => some (.tup (cutD l lo hi))
  | .lst l => some (.lst (cutD l lo hi))
  | .lsc l => some (.lst (cutD l lo hi))
  | _ => none
def truE : D → Option Bool
  | .bl b => some b
  | .int i => some (i != 0)
  | .non => some false
  | .tup l => some (!l.isEmpty)
  | .lst l => some (!l.isEmpty)
  | _ => none
/-- an operator at the things that the values are -/
def on2 {α : Type} (f : D → D → Option α) (h : Hh) (a b : D) : Option α := (vw h a).bind fun x => (vw h b).bind fun y => f x y
def on1 {α : Type} (f : D → Option α) (h : Hh) (a : D) : Option α := (vw h a).bind f
theorem on2_some {α : Type} {f : D → D → Option α} {h : Hh} {a b : D} {z : α} (e : on2 f h a b = some z) : ∃ x y, vw h a = some x ∧ vw h b = some y ∧ f x y = some z := by
  unfold on2 at e
  obtain ⟨x, e1, e⟩ := Option.bind_eq_some_iff.mp e
  obtain ⟨y, e2, e⟩ := Option.bind_eq_some_iff.mp e
  exact ⟨x, y, e1, e2, e⟩

section
variable {G : Gx} {h : Hh} {M : Mp} {H : Hp}
theorem TupAt.sq {X : Cx} {a : Addr} {xs : List V} (hK : G.K = X.K) (x : TupAt G M.F H a xs) : SqT X.K H a xs := by
  rw [← hK]
  rcases x with ⟨_, x⟩ | x
  · exact .inl (.inl x)
  · exact .inr x
theorem LscAt.sq {X : Cx} {a : Addr} {xs : List V} (hK : G.K = X.K) (x : LscAt G M.F H a xs) : SqL X.K H a xs := by
  rw [← hK]
  rcases x with ⟨_, o, x⟩ | x
  · exact .inl (.inr ⟨o, x⟩)
  · exact .inr x
theorem RVs.at {xs : List D} {vs : List V} {i : Int} {d : D} (r : RVs G M H xs vs) (x : atI xs i = some d) : ∃ v, atI vs i = some v ∧ RV G M H d v := by
  unfold atI at x ⊢
  rw [← r.length]
  cases e : ixN xs.length i with
  | none => rw [e] at x; cases x
  | some j =>
    rw [e] at x
    exact r.get x
theorem RVs.cut {xs : List D} {vs : List V} {lo hi : Option Int} (r : RVs G M H xs vs) : RVs G M H (cutD xs lo hi) (cutV vs lo hi) := by
  unfold cutD cutV
  rw [← r.length]
  exact (r.drop _).take _
/-- the sequence that a value is -/
theorem Vd.seq {X : Cx} (hK : G.K = X.K) {d : D} {v : V} {l : List D} (x : Vd G M H d v) (e : items d = some l) : ∃ p vs, v = .ref p ∧ RVs G M H l vs ∧ ((SqL X.K H p vs ∧ ∀ m, d ≠ .tup m) ∨ (SqT X.K H p vs ∧ d = .tup l)) := by
  cases d <;> simp [items] at e <;> subst e
  · cases x.rv trivial with
    | tup h r => exact ⟨_, _, rfl, r, .inr ⟨h.sq hK, rfl⟩⟩
  · obtain ⟨a, vs, rfl, h, r⟩ := x.lst
    exact ⟨a, vs, rfl, r, .inl ⟨SqL.of h, fun _ z => nomatch z⟩⟩
  · cases x.rv trivial with
    | scr h r => exact ⟨_, _, rfl, r, .inl ⟨h.sq hK, fun _ z => nomatch z⟩⟩
mutual
theorem RV.dp {X : Cx} (hK : G.K = X.K) : ∀ {n : Nat} {d : D} {v : V}, dep n d = true → RV G M H d v → Dp X.K H v (pd d)
  | _, _, _, _, .non => by rw [pd]; exact .non
  | _, _, _, _, .bl b => by rw [pd]; exact .bl b
  | _, _, _, _, .int i => by rw [pd]; exact .int i
  | _, _, _, _, .str x => by rw [pd]; exact .str _
  | n, _, _, e, .tup a r => by
    rw [pd]
    cases n with
    | zero => simp [dep] at e
    | succ n => exact .tup (a.sq hK) (RVs.dp hK (n := n) (by simpa [dep] using e) r)
  | n, _, _, e, .scr a r => by
    rw [pd]
    cases n with
    | zero => simp [dep] at e
    | succ n => exact .lst (a.sq hK) (RVs.dp hK (n := n) (by simpa [dep] using e) r)
  | n, _, _, e, .lst f (.lst a r) => by
    rw [pd]
    cases n with
    | zero => simp [dep] at e
    | succ n => exact .lst (.inl (.inl a)) (RVs.dp hK (n := n) (by simpa [dep] using e) r)
  | n, _, _, e, .dct _ _ _ => by cases n <;> simp [dep] at e
  | n, _, _, e, .dcn _ _ => by cases n <;> simp [dep] at e
  | n, _, _, e, .set _ _ => by cases n <;> simp [dep] at e
  | n, _, _, e, .ins _ _ => by cases n <;> simp [dep] at e
  | n, _, _, e, .ref _ => by cases n <;> simp [dep] at e
  | n, _, _, e, .gl _ => by cases n <;> simp [dep] at e
  | n, _, _, e, .clo _ _ => by cases n <;> simp [dep] at e
  | n, _, _, e, .exc _ _ _ _ _ => by cases n <;> simp [dep] at e
  | n, _, _, e, .ty _ => by cases n <;> simp [dep] at e
theorem RVs.dp {X : Cx} (hK : G.K = X.K) : ∀ {n : Nat} {l : List D} {vs : List V}, (∀ d ∈ l, dep n d = true) → RVs G M H l vs → DpAll X.K H vs (pds l)
  | _, _, _, _, .nil => .nil
  | n, _, _, e, .cons r t => .cons (RV.dp hK (e _ List.mem_cons_self) r) (RVs.dp hK (fun d hd => e d (List.mem_cons_of_mem _ hd)) t)
end
theorem Vd.dp {X : Cx} (hK : G.K = X.K) {n : Nat} {d : D} {v : V} (e : dep n d = true) (x : Vd G M H d v) : Dp X.K H v (pd d) := by
  rcases x with x | ⟨a, rfl, ro⟩
  · exact x.dp hK e
  · cases ro with
    | lst h r =>
      rw [pd]
      cases n with
      | zero => simp [dep] at e
      | succ n => exact .lst (.inl (.inl h)) (RVs.dp hK (n := n) (by simpa [dep] using e) r)
    | _ => cases n <;> simp [dep] at e
end
theorem log_small {n : Nat} (h : n < 18446744073709551616) : n.log2 < 9000 := by
  by_cases z : n = 0
  · subst z; decide
  · have := (Nat.log2_lt z (k := 64)).mpr h
    omega
section
variable {X : Cx} {G : Gx}
/-- an operator's reading at data -/
def rD (G : Gx) (f : D → D → Option D) : R2 := fun x y H Qv => ∃ d e h M z, RL G h M H ∧ RB G M H d x ∧ RB G M H e y ∧ on2 f h d e = some z ∧ KP G h M H z Qv
theorem tS_app (x y : List Nat) : tS x ++ tS y = tS (x ++ y) := by
  show (⟨(tS x).cps ++ (tS y).cps⟩ : Str) = _
  simp [tS]
theorem tS_len (x : List Nat) : (tS x).length = x.length := by
  show (tS x).cps.size = _
  simp [tS]
theorem op_bin (gk : Gk G) (hK : G.K = X.K) (o : Operator) : OpR X (binaryOp o) (rD G (binE o)) := by
  intro pins s σ H x y v u Qv I rx ry ⟨d', e', h, M, z, rl, bd, be, ez, k⟩
  obtain ⟨d, e, ed, ee, w⟩ := on2_some ez
  have rd := vw_ok rl bd ed
  have re := vw_ok rl be ee
  unfold binE at w
  split at w
  · cases w; cases rd.rv trivial; cases re.rv trivial
    exact op_add pins s σ H _ _ v u Qv I rx ry ⟨_, _, rfl, rfl, k.here rl (.int _)⟩
  · cases w; cases rd.rv trivial; cases re.rv trivial
    exact op_sub pins s σ H _ _ v u Qv I rx ry ⟨_, _, rfl, rfl, k.here rl (.int _)⟩
  · split at w
    · rename_i hm
      cases w; cases rd.rv trivial; cases re.rv trivial
      refine op_mul pins s σ H _ _ v u Qv I rx ry ⟨_, _, rfl, rfl, ?_, k.here rl (.int _)⟩
      show (_ ∧ _) ∨ (_ ∧ _)
      simpa [mulOk] using hm
    · cases w
  · split at w
    · rename_i hm
      cases w; cases rd.rv trivial; cases re.rv trivial
      exact op_fdivW pins s σ H _ _ v u Qv I rx ry ⟨_, _, rfl, rfl, ⟨hm.1, log_small (by omega)⟩, k.here rl (.int _)⟩
    · cases w
  · split at w
    · rename_i hm
      cases w; cases rd.rv trivial; cases re.rv trivial
      exact op_mod pins s σ H _ _ v u Qv I rx ry ⟨_, _, rfl, rfl, hm, k.here rl (.int _)⟩
    · cases w
  · split at w
    · rename_i hm
      cases w; cases rd.rv trivial; cases re.rv trivial
      exact op_pow pins s σ H _ _ v u Qv I rx ry ⟨_, _, rfl, rfl, by show _ ∧ _ ∧ _; simpa [powOk, and_assoc] using hm, k.here rl (.int _)⟩
    · cases w
  · split at w
    · rename_i hm
      cases w; cases rd.rv trivial; cases re.rv trivial
      exact op_shl pins s σ H _ _ v u Qv I rx ry ⟨_, _, rfl, rfl, by show _ ∧ _ ∧ _; simpa [powOk, and_assoc] using hm, k.here rl (.int _)⟩
    · cases w
  · split at w
    · rename_i hm
      cases w; cases rd.rv trivial; cases re.rv trivial
      exact op_add_str pins s σ H _ _ v u Qv I rx ry ⟨_, _, rfl, rfl, by rw [tS_len, tS_len, ← line_eq]; exact hm, by rw [tS_app]; exact k.here rl (.str _)⟩
    · cases w
  · split at w
    · rename_i hm
      cases w
      cases rd.rv trivial with
      | tup h1 r1 =>
        cases re.rv trivial with
        | tup h2 r2 =>
          refine op_catA pins s σ H _ _ v u Qv I rx ry ⟨_, _, _, _, rfl, rfl, h1.sq hK, h2.sq hK, by rw [← r1.length, ← r2.length, ← line_eq]; exact hm, ?_⟩
          refine ⟨fun hx => ?_, fun _ hy => ?_, fun _ _ p hp => k.newTup gk rl (r1.append r2) p hp⟩
          · subst hx; cases r1
            exact k.here rl (.tup h2 r2)
          · subst hy; cases r2
            exact k.here rl (by simpa using RV.tup h1 r1)
    · cases w
  · split at w
    · rename_i hm
      cases w
      obtain ⟨p1, vs1, rfl, e1, r1⟩ := rd.lst
      obtain ⟨p2, vs2, rfl, e2, r2⟩ := re.lst
      exact op_cat pins s σ H _ _ v u Qv I rx ry ⟨_, _, _, _, rfl, rfl, e1, e2, by rw [← r1.length, ← r2.length, ← line_eq]; exact hm, fun p hp => k.newList gk rl (r1.append r2) p hp⟩
    · cases w
  · cases w
theorem isNon_of {M : Mp} {H : Hp} {h : Hh} {d d' : D} {v : V} (rl : RL G h M H) (b : RB G M H d v) (e : vw h d = some d') (gk : Gk G) : decide (v = .non) = isNonD d' := by
  rcases vw_ok rl b e with r | ⟨a, rfl, ro⟩
  · cases r <;> simp [isNonD]
    · intro z; subst z; exact gk.nc _ _ _ _ ‹_›
    · intro z; subst z; exact gk.nx _ _ _ _ ‹_›
  · cases ro <;> simp [isNonD]
theorem room65 {k : Nat} {A : Around} (r : Room k A) : A.units + 65 < cLine := by have := r.un; omega

theorem any_pds (l : List D) (p : PyData) : (pds l).any (fun z => PyData.eqv z p) = l.any fun z => PyData.eqv (pd z) p := by
  rw [pds_map, List.any_map]; rfl
def rC2 (G : Gx) (f : D → D → Option Bool) : R2 := rD G fun a b => (f a b).map D.bl
theorem dep_lst {n : Nat} {l : List D} (h : l.all (dep n) = true) : dep (n + 1) (.lst l) = true := by simpa [dep] using h
theorem op_cmpD (gk : Gk G) (hK : G.K = X.K) (hu' : X.A.units + 65 < cLine) (o : CmpOp) : OpR X (compareOp o) (rC2 G (cmpE o)) := by
  intro pins s σ H x y v u Qv I rx ry ⟨d', e', h, M, z, rl, bd, be, ez, k⟩
  obtain ⟨d, e, ed, ee, w⟩ := on2_some ez
  have rd := vw_ok rl bd ed
  have re := vw_ok rl be ee
  obtain ⟨c, w2, rfl⟩ := Option.map_eq_some_iff.mp w
  clear w ez
  have w := w2
  clear w2
  have kb : Qv (.bl c) H := k.here rl (.bl _)
  have hu : X.A.units + 64 < cLine := by omega
  have ord : ∀ {f : Int → Int → Bool} {g : PyData → PyData → Bool}, ltE d e f g = some c → (∀ i j, d = .int i → e = .int j → f i j = c → wpAny (model X.prog X.w) X.A (compareOp o v u) (EP X pins σ Qv) X.xe s) →
      (∀ as bs, Reads s.heap v (pd d) as → Reads s.heap u (pd e) bs → PySem.W.alike (pd d) (pd e) = true → pd d ≠ .none → SeqAt.shaped (pd d) = true → g (pd d) (pd e) = c → wpAny (model X.prog X.w) X.A (compareOp o v u) (EP X pins σ Qv) X.xe s) → wpAny (model X.prog X.w) X.A (compareOp o v u) (EP X pins σ Qv) X.xe s := by
    intro f g w h1 h2
    unfold ltE at w
    split at w
    · cases w; exact h1 _ _ rfl rfl rfl
    · split at w
      · rename_i ho
        cases w
        simp only [ordOk, Bool.and_eq_true, Bool.not_eq_true'] at ho
        obtain ⟨⟨⟨o1, o2⟩, o3⟩, o4⟩ := ho
        obtain ⟨as, r1⟩ := Dp.reads I _ _ v (rd.dp hK o1) rx
        obtain ⟨bs, r2⟩ := Dp.reads I _ _ u (re.dp hK o2) ry
        refine h2 as bs r1 r2 o3 (fun z => ?_) (shaped_dep o1) rfl
        cases d <;> simp [pd, isNonD, dep] at z o4 o1
      · cases w
  have eqs : ∀ {c' : Bool}, eqE d e = some c' → SeqAt.shaped (pd d) = true ∧ SeqAt.shaped (pd e) = true ∧ Dp X.K H x (pd d) ∧ Dp X.K H y (pd e) ∧ PyData.eqv (pd d) (pd e) = c' := by
    intro c' q
    unfold eqE at q
    split at q
    · rename_i hq
      simp only [Bool.and_eq_true] at hq
      cases q
      exact ⟨shaped_dep hq.1, shaped_dep hq.2, rd.dp hK hq.1, re.dp hK hq.2, rfl⟩
    · cases q
  have ins : ∀ {c' : Bool}, inE d e = some c' → ∃ (p : PyData) (ds : List PyData), Dp X.K H x p ∧ SeqAt.shaped p = true ∧ PyData.canLay0 (.list ds) = true ∧ (ds.any fun z => PyData.eqv z p) = c' ∧ (Dp X.K H y (.list ds) ∨ Dp X.K H y (.tuple ds)) := by
    intro c' q
    unfold inE at q
    obtain ⟨l, e1, q⟩ := Option.bind_eq_some_iff.mp q
    split at q
    · rename_i hq
      simp only [Bool.and_eq_true] at hq
      cases q
      have hl := dep_lst hq.2
      refine ⟨pd d, pds l, rd.dp hK hq.1, shaped_dep hq.1, by have := (canLay_dep 60 _ hl).1; rwa [pd] at this, any_pds _ _, ?_⟩
      obtain ⟨p, vs, rfl, r, ⟨q1, _⟩ | ⟨q1, _⟩⟩ := re.seq hK e1
      · exact .inl (.lst q1 (RVs.dp hK (n := 59) (by simpa using hq.2) r))
      · exact .inr (.tup q1 (RVs.dp hK (n := 59) (by simpa using hq.2) r))
    · cases q
  unfold cmpE at w
  split at w
  · obtain ⟨s1, s2, d1, d2, q⟩ := eqs w
    exact op_eqD hu pins s σ H _ _ v u Qv I rx ry ⟨_, _, d1, d2, s1, s2, by rw [q]; exact kb⟩
  · obtain ⟨c', w2, rfl⟩ := Option.map_eq_some_iff.mp w
    clear w
    have w := w2
    obtain ⟨s1, s2, d1, d2, q⟩ := eqs w
    exact op_neD hu pins s σ H _ _ v u Qv I rx ry ⟨_, _, d1, d2, s1, s2, by rw [q]; exact kb⟩
  · split at w
    · rename_i hn
      cases w
      have : y = .non := by
        have := isNon_of rl be ee gk
        rw [hn] at this
        simpa using this
      exact op_isN pins s σ H _ _ v u Qv I rx ry ⟨this, by rw [isNon_of rl bd ed gk]; exact kb⟩
    · cases w
  · split at w
    · rename_i hn
      cases w
      have : y = .non := by
        have := isNon_of rl be ee gk
        rw [hn] at this
        simpa using this
      exact op_notN pins s σ H _ _ v u Qv I rx ry ⟨this, by rw [isNon_of rl bd ed gk]; exact kb⟩
    · cases w
  · refine ord w (fun i j h1 h2 h3 => ?_) fun as bs r1 r2 al ne sh h3 => PySem.W.lt_data r1 r2 al ne (SeqAt.room_of_shaped sh hu) ⟨.bl _, H, I, rfl, by rw [h3]; exact kb⟩
    subst h1 h2
    cases rd.rv trivial; cases re.rv trivial
    exact op_lt pins s σ H _ _ v u Qv I rx ry ⟨_, _, rfl, rfl, by dsimp only; rw [h3]; exact kb⟩
  · refine ord w (fun i j h1 h2 h3 => ?_) fun as bs r1 r2 al ne sh h3 => PySem.W.le_data r1 r2 al ne (SeqAt.room_of_shaped sh hu) ⟨.bl _, H, I, rfl, by rw [h3]; exact kb⟩
    subst h1 h2
    cases rd.rv trivial; cases re.rv trivial
    exact op_le pins s σ H _ _ v u Qv I rx ry ⟨_, _, rfl, rfl, by dsimp only; rw [h3]; exact kb⟩
  · refine ord w (fun i j h1 h2 h3 => ?_) fun as bs r1 r2 al ne sh h3 => PySem.W.gt_data r1 r2 al ne (SeqAt.room_of_shaped sh hu) ⟨.bl _, H, I, rfl, by rw [h3]; exact kb⟩
    subst h1 h2
    cases rd.rv trivial; cases re.rv trivial
    exact op_gt pins s σ H _ _ v u Qv I rx ry ⟨_, _, rfl, rfl, by dsimp only; rw [h3]; exact kb⟩
  · refine ord w (fun i j h1 h2 h3 => ?_) fun as bs r1 r2 al ne sh h3 => PySem.W.ge_data r1 r2 al ne (SeqAt.room_of_shaped sh hu) ⟨.bl _, H, I, rfl, by rw [h3]; exact kb⟩
    subst h1 h2
    cases rd.rv trivial; cases re.rv trivial
    exact op_ge pins s σ H _ _ v u Qv I rx ry ⟨_, _, rfl, rfl, by dsimp only; rw [h3]; exact kb⟩
  · obtain ⟨p, ds, hx, sp, sq, q, hy⟩ := ins w
    obtain ⟨as, r1⟩ := Dp.reads I p _ v hx rx
    rcases hy with hy | hy
    · obtain ⟨bs, r2⟩ := Dp.reads I _ _ u hy ry
      exact SeqAt.in_list_reads r2 r1 sq (SeqAt.canLay_of_shaped sp) (by have h1 := SeqAt.depth_of_shaped sp; omega) ⟨.bl _, H, I, rfl, by rw [q]; exact kb⟩
    · obtain ⟨bs, r2⟩ := Dp.reads I _ _ u hy ry
      exact SeqAt.in_tuple_reads r2 r1 sq (SeqAt.canLay_of_shaped sp) (by have h1 := SeqAt.depth_of_shaped sp; omega) ⟨.bl _, H, I, rfl, by rw [q]; exact kb⟩
  · obtain ⟨c', w2, rfl⟩ := Option.map_eq_some_iff.mp w
    clear w
    have w := w2
    obtain ⟨p, ds, hx, sp, sq, q, hy⟩ := ins w
    obtain ⟨as, r1⟩ := Dp.reads I p _ v hx rx
    rcases hy with hy | hy
    · obtain ⟨bs, r2⟩ := Dp.reads I _ _ u hy ry
      exact SeqAt.notIn_list_reads r2 r1 sq (SeqAt.canLay_of_shaped sp) (by have h1 := SeqAt.depth_of_shaped sp; omega) ⟨.bl _, H, I, rfl, by rw [q]; exact kb⟩
    · obtain ⟨bs, r2⟩ := Dp.reads I _ _ u hy ry
      exact SeqAt.notIn_tuple_reads r2 r1 sq (SeqAt.canLay_of_shaped sp) (by have h1 := SeqAt.depth_of_shaped sp; omega) ⟨.bl _, H, I, rfl, by rw [q]; exact kb⟩

/-! ### subscripts, slices, truth -/
theorem ix_D (hK : G.K = X.K) : IxR X (rD G ixE) := by
  intro value slice pins s σ H x y v u Qv I rx ry ⟨d', e', h, M, z, rl, bd, be, ez, k⟩ hs
  obtain ⟨d, e, ed, ee, w⟩ := on2_some ez
  have rd := vw_ok rl bd ed
  have re := vw_ok rl be ee
  unfold ixE at w
  split at w
  · cases re.rv trivial
    obtain ⟨l, e1, w⟩ := Option.bind_eq_some_iff.mp w
    obtain ⟨p, vs, rfl, r, ⟨q1, _⟩ | ⟨q1, _⟩⟩ := rd.seq hK e1
    · obtain ⟨vz, e2, r2⟩ := r.at w
      exact ix_list value slice pins s σ H _ _ v u Qv I rx ry ⟨_, _, _, _, rfl, rfl, q1, e2, k.here rl r2⟩ hs
    · obtain ⟨vz, e2, r2⟩ := r.at w
      exact ix_tup value slice pins s σ H _ _ v u Qv I rx ry ⟨_, _, _, _, rfl, rfl, q1, e2, k.here rl r2⟩ hs
  · cases w
theorem RVs.isEmpty {M : Mp} {H : Hp} {l : List D} {xs : List V} (r : RVs G M H l xs) : xs.isEmpty = l.isEmpty := by
  cases r <;> rfl
theorem tru_D (hK : G.K = X.K) {M : Mp} {H : Hp} {h : Hh} {d : D} {v : V} {c : Bool} (rl : RL G h M H) (bd : RB G M H d v) (w : on1 truE h d = some c) : TruV X.K v H c := by
  unfold on1 at w
  obtain ⟨d', ed, w⟩ := Option.bind_eq_some_iff.mp w
  have rd := vw_ok rl bd ed
  unfold truE at w
  split at w
  · cases w; cases rd.rv trivial; rfl
  · cases w; cases rd.rv trivial; rfl
  · cases w; cases rd.rv trivial; rfl
  · cases w
    cases rd.rv trivial with
    | tup h1 r1 => exact .inr (.inl ⟨_, h1.sq hK, by rw [r1.isEmpty]⟩)
  · cases w
    obtain ⟨p, vs, rfl, h1, r1⟩ := rd.lst
    exact .inl ⟨_, SqL.of h1, by rw [r1.isEmpty]⟩
  · cases w
theorem cut_whole {l : List D} {lo hi : Option Int} (h1 : HT.sIx l.length 0 lo = 0) (h2 : HT.sIx l.length l.length hi = l.length) : cutD l lo hi = l := by
  unfold cutD
  rw [h1, h2]
  simp
def rS (G : Gx) : V → Option Int → Option Int → Hp → VK → Prop := fun x lo hi H Qv => ∃ d h M z, RL G h M H ∧ RB G M H d x ∧ on1 (slE · lo hi) h d = some z ∧ KP G h M H z Qv
theorem sl_D (gk : Gk G) (hK : G.K = X.K) : SlR X (rS G) := by
  intro pins s σ H x v vl vu lo hi sl Qv I rx hs pl pu ⟨d', h, M, z, rl, bd, w, k⟩
  unfold on1 at w
  obtain ⟨d, ed, w⟩ := Option.bind_eq_some_iff.mp w
  have rd := vw_ok rl bd ed
  unfold slE at w
  split at w
  · cases w
    cases rd.rv trivial with
    | tup h1 r1 =>
      refine sl_tupA pins s σ H _ v vl vu lo hi sl Qv I rx hs pl pu ⟨_, _, rfl, h1.sq hK, fun hw => ?_, fun _ p hp => k.newTup gk rl r1.cut p hp⟩
      rw [cut_whole (by rw [r1.length]; exact hw.1) (by rw [r1.length]; exact hw.2)] at k
      exact k.here rl (.tup h1 r1)
  · cases w
    obtain ⟨p, zs, rfl, h1, r2⟩ := rd.lst
    exact sl_list pins s σ H _ v vl vu lo hi sl Qv I rx hs pl pu ⟨_, _, rfl, SqL.of h1, fun p hp => k.newList gk rl r2.cut p hp⟩
  · cases w
    cases rd.rv trivial with
    | scr h1 r2 => exact sl_list pins s σ H _ v vl vu lo hi sl Qv I rx hs pl pu ⟨_, _, rfl, h1.sq hK, fun p hp => k.newList gk rl r2.cut p hp⟩
  · cases w
end
end Pf

set_option Elab.async false
set_option linter.all false
set_option maxRecDepth 100000
/-! ## Expressions -/
namespace Pf
open PySem L2
section
variable {X : Cx} {G : Gx} {ck : Ck} {k : Nat} {Wx : WX} {a b c : Expr} {pos p2 p3 : Pos} {σ : St} {H : Hp} {M : Mp} {h : Hh} {r : Rho}
theorem vis_of (C : Cok X G ck k Wx) {y : Str} (h : visB ck y = true) : Vis X.env.scope y := by
  unfold Vis; rw [C.hsc]
  unfold visB at h
  split at h
  · exact .inl (by assumption)
  · exact .inr (.inl (by assumption))
  · exact .inr (.inr (by assumption))
  · cases h
theorem gl_of (C : Cok X G ck k Wx) {y : Str} (h : globB ck y = true) : Gl X y ∧ (y == ("__debug__" : Str)) = false ∧ y ≠ "__name__" := by
  unfold globB at h
  simp only [Bool.and_eq_true, Bool.not_eq_true'] at h
  obtain ⟨⟨h1, h2⟩, h3⟩ := h
  refine ⟨?_, h2, fun z => by rw [z] at h3; simp at h3⟩
  show X.env.scope.names.lookup y = _
  rw [C.hsc]
  split at h1
  · assumption
  · cases h1
theorem nomarkS {o : CmpOp} (h : notSet b = true) : behindInMarks o b = false := by
  cases b <;> first | rfl | (simp [notSet] at h)
theorem plainIx_of (h : notSlice b = true) : PlainIx b := by
  intro o i
  cases b <;> first | rfl | (simp [notSlice] at h)
/-- the end of a pure operation -/
theorem fin2 {f : D → D → Option D} {d e : D} {v u : V} {Qv : VK} (k2 : KG (RV G) G Wx σ M H Qv (ofO (on2 f h d e) h)) (rl : RL G h M H) (b1 : RB G M H d v) (b2 : RB G M H e u) : rD G f v u H Qv := by
  cases q : on2 f h d e with
  | none => rw [q] at k2; exact k2.elim
  | some z => rw [q] at k2; exact ⟨d, e, h, M, z, rl, b1, b2, q, k2⟩
end
def nm : Expr → Option Str
  | .Name x _ => some x
  | _ => none
theorem nm_some {a : Expr} {x : Str} (h : nm a = some x) : ∃ p, a = .Name x p := by
  cases a <;> simp [nm] at h
  subst h; exact ⟨_, rfl⟩
def varB (i : Nat) (ck : Ck) (a : Expr) : Bool := match nm a with
  | some x => atB ck i x && visB ck x && !(x == ("__debug__" : Str)) && !(x == ("__classdict__" : Str))
  | none => false
theorem varB_star {i : Nat} {ck : Ck} {a : Expr} (h : varB i ck a = true) : notStar a = true := by
  cases a <;> first | rfl | (simp [varB, nm] at h)
theorem pe_varB {X : Cx} {G : Gx} {ck : Ck} {k : Nat} {Wx : WX} {a : Expr} {i : Nat} (C : Cok X G ck k Wx) (h : varB i ck a = true) : PE X a (fun σ H Qv => ∃ v, σ[i]? = some (some v) ∧ Qv v H) := by
  unfold varB at h
  cases e : nm a with
  | none => rw [e] at h; cases h
  | some x =>
    rw [e] at h
    obtain ⟨p, rfl⟩ := nm_some e
    simp only [Bool.and_eq_true, Bool.not_eq_true', atB, decide_eq_true_eq] at h
    exact pe_var (by rw [C.hN]; exact h.1.1.1) (vis_of C h.1.1.2) h.1.2 h.2
/-- a name's value -/
def Xp.v (i : Nat) : Xp where
  sem r h := match r[i]? with
    | some (.pl d) => .ok d h
    | _ => .no
  ok := varB i
  need _ := True
  star _ _ h := varB_star h
  snd C h _ := PE.imp (pe_varB C h) fun σ H Qv ⟨r, h, M, rl, re, k⟩ => by
    dsimp only at k
    split at k
    · rename_i d e
      obtain ⟨v, e1, r1⟩ := re.pl i d e
      exact ⟨v, e1, k.here rl r1⟩
    · exact k.elim
/-- a name as an operand: what it holds is looked at alone -/
def Xo.v (i : Nat) : Xo where
  sem r h := match r[i]? with
    | some (.pl d) => .ok d h
    | some (.ow d) => .ok d h
    | _ => .no
  ok := varB i
  need _ := True
  star _ _ h := varB_star h
  snd C h _ := PE.imp (pe_varB C h) fun σ H Qv ⟨r, h, M, rl, re, k⟩ => by
    dsimp only at k
    split at k
    · rename_i d e
      obtain ⟨v, e1, r1⟩ := re.pl i d e
      exact ⟨v, e1, k.here rl (.inl r1)⟩
    · rename_i d e
      obtain ⟨a, e1, ro, n, nf⟩ := re.ow i d e
      exact ⟨_, e1, k.here rl (.inr ⟨a, rfl, ro, n⟩)⟩
    · exact k.elim
def constB : Const → D → Bool
  | .none, .non => true
  | .bool b, .bl c => b == c
  | .int i, .int j => i == j
  | .str x, .str y => x == tS y
  | _, _ => false
def cstB (d : D) : Expr → Bool
  | .Constant k _ _ => constB k d
  | _ => false
/-- a constant -/
def Xp.c (d : D) : Xp where
  sem _ h := .ok d h
  ok _ := cstB d
  need _ := True
  star _ a h := by cases a <;> first | rfl | (simp [cstB] at h)
  snd {X G ck k Wx a} C h _ := by
    cases a <;> simp only [cstB, Bool.false_eq_true] at h
    unfold constB at h
    split at h
    · exact PE.imp pe_non fun σ H Qv ⟨r, h, M, rl, re, k⟩ => k.here rl .non
    · have e := eq_of_beq h; subst e
      exact PE.imp pe_bl fun σ H Qv ⟨r, h, M, rl, re, k⟩ => k.here rl (.bl _)
    · have e := eq_of_beq h; subst e
      exact PE.imp pe_int fun σ H Qv ⟨r, h, M, rl, re, k⟩ => k.here rl (.int _)
    · have e := eq_of_beq h; subst e
      exact PE.imp pe_str fun σ H Qv ⟨r, h, M, rl, re, k⟩ => k.here rl (.str _)
    · cases h
def glB (y : Str) (ck : Ck) (a : Expr) : Bool := match nm a with
  | some x => x == y && globB ck x
  | none => false
/-- a constant of the module -/
def Xp.g (y : Str) (d : D) : Xp where
  sem _ h := .ok d h
  ok := glB y
  need t := GvL t y d
  star _ a h := by cases a <;> first | rfl | (simp [glB, nm] at h)
  snd {X G ck k Wx a} C h o := by
    unfold glB at h
    cases e : nm a with
    | none => rw [e] at h; cases h
    | some x =>
      rw [e] at h
      obtain ⟨p, rfl⟩ := nm_some e
      simp only [Bool.and_eq_true, beq_iff_eq] at h
      obtain ⟨rfl, h⟩ := h
      obtain ⟨g1, g2, g3⟩ := gl_of C h
      obtain ⟨u, v, e, rv, rd⟩ := o
      exact PE.imp (pe_glob g1 (by rw [← C.hmg]; exact e) rv g2) fun σ H Qv ⟨r, h, M, rl, re, k⟩ => k.here rl (rd _ _)
def Xp.neg (x : Xp) : Xp where
  sem r h := (x.sem r h).bind fun d h1 => match d with
    | .int i => .ok (.int (-i)) h1
    | _ => .no
  ok ck a := match a with
    | .UnaryOp .USub y _ => x.ok ck y
    | _ => false
  need := x.need
  star _ a h := by cases a <;> first | rfl | (simp at h)
  snd {X G ck k Wx a} C h n := by
    split at h
    · refine PE.imp (pe_un un_neg (x.snd C h n)) fun σ H Qv ⟨r, h, M, rl, re, k⟩ => ⟨r, h, M, rl, re, one k fun d v h1 M1 H1 e1 r1 rv k1 => ?_⟩
      try dsimp only at k1
      split at k1
      · cases rv
        exact ⟨_, rfl, k1.here r1 (.int _)⟩
      · exact k1.elim
    · cases h
def Xp.bin (o : Operator) (x y : Xo) : Xp where
  sem r h := (x.sem r h).bind fun d h1 => (y.sem r h1).bind fun e h2 => ofO (on2 (binE o) h2 d e) h2
  ok ck a := match a with
    | .BinOp u p v _ => decide (p = o) && x.ok ck u && y.ok ck v
    | _ => false
  need t := x.need t ∧ y.need t
  star _ a h := by cases a <;> first | rfl | (simp at h)
  snd {X G ck k Wx a} C h n := by
    split at h
    · simp only [Bool.and_eq_true, decide_eq_true_eq] at h
      obtain ⟨⟨rfl, h1⟩, h2⟩ := h
      exact PE.imp (pe_op (op_bin C.gk C.hK _) (x.snd C h1 n.1) (y.snd C h2 n.2)) fun σ H Qv ⟨r, h, M, rl, re, k⟩ => ⟨r, h, M, rl, re, one k fun d v h1 M1 H1 e1 r1 b1 k1 =>
        ⟨r, h1, M1, r1, re.ext C.gk rl e1, one k1 fun e u h2 M2 H2 e2 r2 b2 k2 => fin2 k2 r2 (b1.ext C.gk r1 e2) b2⟩⟩
    · cases h
def ofB (o : Option Bool) (h : Hh) : Res D := ofO (o.map D.bl) h
theorem on2_map {f : D → D → Option Bool} {h : Hh} {d e : D} : (on2 f h d e).map D.bl = on2 (fun a b => (f a b).map D.bl) h d e := by
  unfold on2
  cases vw h d <;> simp
  cases vw h e <;> simp
def cmpB (o : CmpOp) (x y : Ck → Expr → Bool) (ck : Ck) (a : Expr) : Bool := match a with
  | .Compare u [p] [v] _ => decide (p = o) && x ck u && y ck v && notSet v
  | _ => false
theorem cmpB_some {o : CmpOp} {x y : Ck → Expr → Bool} {ck : Ck} {a : Expr} (h : cmpB o x y ck a = true) : ∃ u v p, a = .Compare u [o] [v] p ∧ x ck u = true ∧ y ck v = true ∧ notSet v = true := by
  unfold cmpB at h
  split at h
  · simp only [Bool.and_eq_true, decide_eq_true_eq] at h
    obtain ⟨⟨⟨rfl, h1⟩, h2⟩, h3⟩ := h
    exact ⟨_, _, _, rfl, h1, h2, h3⟩
  · cases h
theorem cmpB_star {o : CmpOp} {x y : Ck → Expr → Bool} {ck : Ck} {a : Expr} (h : cmpB o x y ck a = true) : notStar a = true := by
  obtain ⟨u, v, p, rfl, _⟩ := cmpB_some h; rfl
section
variable {X : Cx} {G : Gx} {ck : Ck} {k : Nat} {Wx : WX}
theorem rd_cmp (C : Cok X G ck k Wx) {σ : St} {H : Hp} {M : Mp} {h : Hh} {r : Rho} {o : CmpOp} {x y : Xo} {Qv : VK} (rl : RL G h M H) (re : RE G M H r σ)
    (k1 : KG (RV G) G Wx σ M H Qv ((x.sem r h).bind fun d h1 => (y.sem r h1).bind fun e h2 => ofB (on2 (cmpE o) h2 d e) h2)) :
    tG (RB G) G Wx x.sem σ H fun v H1 => tG (RB G) G Wx y.sem σ H1 fun u H2 => rC2 G (cmpE o) v u H2 Qv :=
  ⟨r, h, M, rl, re, one k1 fun d v h1 M1 H1 e1 r1 b1 k1 => ⟨r, h1, M1, r1, re.ext C.gk rl e1, one k1 fun e u h2 M2 H2 e2 r2 b2 k2 => by
    unfold ofB at k2
    rw [on2_map] at k2
    exact fin2 k2 r2 (b1.ext C.gk r1 e2) b2⟩⟩
end
def Xp.cmp (o : CmpOp) (x y : Xo) : Xp where
  sem r h := (x.sem r h).bind fun d h1 => (y.sem r h1).bind fun e h2 => ofB (on2 (cmpE o) h2 d e) h2
  ok := cmpB o x.ok y.ok
  need t := x.need t ∧ y.need t
  star _ _ h := cmpB_star h
  snd {X G ck k Wx a} C h n := by
    obtain ⟨u, v, p, rfl, h1, h2, h3⟩ := cmpB_some h
    exact PE.imp (pe_cmpR (op_cmpD C.gk C.hK (room65 C.room) o) (x.snd C h1 n.1) (y.snd C h2 n.2) (nomarkS h3)) fun σ H Qv ⟨r, h, M, rl, re, k⟩ => rd_cmp C rl re k
/-- a comparison as a test -/
def Xt.cmp (o : CmpOp) (x y : Xo) : Xt where
  sem r h := (x.sem r h).bind fun d h1 => (y.sem r h1).bind fun e h2 => ofO (on2 (cmpE o) h2 d e) h2
  ok := cmpB o x.ok y.ok
  need t := x.need t ∧ y.need t
  snd {X G ck k Wx a} C h n := by
    obtain ⟨u, v, p, rfl, h1, h2, h3⟩ := cmpB_some h
    refine PT.imp (pt_cmpR (op_cmpD C.gk C.hK (room65 C.room) o) (x.snd C h1 n.1) (y.snd C h2 n.2) (nomarkS h3)) fun σ H Qv ⟨r, h, M, rl, re, k⟩ => rd_cmp C rl re ?_
    dsimp only at k
    cases q1 : x.sem r h with
    | no => rw [q1] at k; exact k
    | exc c fs h' => rw [q1] at k; exact k
    | ok d h1 =>
      rw [q1] at k
      simp only [bind_ok] at k ⊢
      cases q2 : y.sem r h1 with
      | no => rw [q2] at k; exact k
      | exc c fs h' => rw [q2] at k; exact k
      | ok e h2 =>
        rw [q2] at k
        simp only [bind_ok] at k ⊢
        unfold ofB
        cases q3 : on2 (cmpE o) h2 d e with
        | none => rw [q3] at k; exact k.elim
        | some c =>
          rw [q3] at k
          intro v M' H' e' r' rv
          cases rv
          exact ⟨_, rfl, k c M' H' e' r' rfl⟩
/-- any expression as a test -/
def Xt.e (x : Xo) : Xt where
  sem r h := (x.sem r h).bind fun d h1 => ofO (on1 truE h1 d) h1
  ok ck a := x.ok ck a && plainTest a
  need := x.need
  snd {X G ck k Wx a} C h n := by
    simp only [Bool.and_eq_true] at h
    refine PT.imp (pt_truth (x.snd C h.1 n) ?_) fun σ H Qv ⟨r, h, M, rl, re, k⟩ => ⟨r, h, M, rl, re, one k fun d v h1 M1 H1 e1 r1 b1 k1 => ?_⟩
    · intro wh
      have ht := h.2
      cases a with
      | UnaryOp o y p =>
        cases o <;> first | rfl | (simp [plainTest] at ht)
      | _ => first | rfl | (simp [plainTest] at ht)
    · cases q : on1 truE h1 d with
      | none => rw [q] at k1; exact k1.elim
      | some c =>
        rw [q] at k1
        exact ⟨c, tru_D C.hK r1 b1 q, k1 c M1 H1 Ext.refl r1 rfl⟩
def Xt.not (x : Xt) : Xt where
  sem r h := (x.sem r h).bind fun d h1 => .ok (!d) h1
  ok ck a := match a with
    | .UnaryOp .Not y _ => x.ok ck y
    | _ => false
  need := x.need
  snd {X G ck k Wx a} C h n := by
    split at h
    · exact PT.imp (pt_not (x.snd C h n)) fun σ H Qv ⟨r, h, M, rl, re, k⟩ => ⟨r, h, M, rl, re, one k fun d v h1 M1 H1 e1 r1 b1 k1 => by
        cases b1
        exact k1 _ M1 H1 Ext.refl r1 rfl⟩
    · cases h
/-- and, or over tests: the rest of a chain -/
def boolB (o : BoolOp) (x y : Ck → Expr → Bool) (ck : Ck) (a : Expr) : Bool := match a with
  | .BoolOp p (u :: v :: r) q => decide (p = o) && x ck u && y ck (if r.isEmpty then v else .BoolOp o (v :: r) q)
  | _ => false
theorem boolB_some {o : BoolOp} {x y : Ck → Expr → Bool} {ck : Ck} {a : Expr} (h : boolB o x y ck a = true) : ∃ u v r q, a = .BoolOp o (u :: v :: r) q ∧ x ck u = true ∧ y ck (if r.isEmpty then v else .BoolOp o (v :: r) q) = true := by
  unfold boolB at h
  split at h
  · simp only [Bool.and_eq_true, decide_eq_true_eq] at h
    obtain ⟨⟨rfl, h1⟩, h2⟩ := h
    exact ⟨_, _, _, _, rfl, h1, h2⟩
  · cases h
def Xt.and (x y : Xt) : Xt where
  sem r h := (x.sem r h).bind fun d h1 => if d then y.sem r h1 else .ok false h1
  ok := boolB .And x.ok y.ok
  need t := x.need t ∧ y.need t
  snd {X G ck k Wx a} C h n := by
    obtain ⟨u, v, rest, q, rfl, h1, h2⟩ := boolB_some h
    have hy : PW X (.BoolOp .And (v :: rest) q) (tG (fun _ _ (b c : Bool) => b = c) G Wx y.sem) := by
      cases rest with
      | nil => exact pw_and1 (y.snd C h2 n.2)
      | cons z w =>
        have := y.snd C h2 n.2
        exact ⟨fun wh pins s σ H Q I t => this.run pins s σ H Q I t⟩
    refine PT.imp (pw_and (x.snd C h1 n.1) hy).pt fun σ H Qv ⟨r, h, M, rl, re, k⟩ => ⟨r, h, M, rl, re, one k fun d v h1 M1 H1 e1 r1 b1 k1 => ?_⟩
    cases b1
    cases d with
    | true => exact ⟨r, h1, M1, r1, re.ext C.gk rl e1, k1⟩
    | false => exact k1 _ M1 H1 Ext.refl r1 rfl
def Xt.or (x y : Xt) : Xt where
  sem r h := (x.sem r h).bind fun d h1 => if d then .ok true h1 else y.sem r h1
  ok := boolB .Or x.ok y.ok
  need t := x.need t ∧ y.need t
  snd {X G ck k Wx a} C h n := by
    obtain ⟨u, v, rest, q, rfl, h1, h2⟩ := boolB_some h
    have hy : PW X (.BoolOp .Or (v :: rest) q) (tG (fun _ _ (b c : Bool) => b = c) G Wx y.sem) := by
      cases rest with
      | nil => exact pw_or1 (y.snd C h2 n.2)
      | cons z w =>
        have := y.snd C h2 n.2
        exact ⟨fun wh pins s σ H Q I t => this.run pins s σ H Q I t⟩
    refine PT.imp (pw_or (x.snd C h1 n.1) hy).pt fun σ H Qv ⟨r, h, M, rl, re, k⟩ => ⟨r, h, M, rl, re, one k fun d v h1 M1 H1 e1 r1 b1 k1 => ?_⟩
    cases b1
    cases d with
    | true => exact k1 _ M1 H1 Ext.refl r1 rfl
    | false => exact ⟨r, h1, M1, r1, re.ext C.gk rl e1, k1⟩
theorem boolB_star {o : BoolOp} {x y : Ck → Expr → Bool} {ck : Ck} {a : Expr} (h : boolB o x y ck a = true) : notStar a = true := by
  obtain ⟨u, v, r, q, rfl, _⟩ := boolB_some h; rfl
/-- and, or as values: all but the last are truths -/
def Xp.and (x y : Xp) : Xp where
  sem r h := (x.sem r h).bind fun d h1 => match d with
    | .bl true => y.sem r h1
    | .bl false => .ok (.bl false) h1
    | _ => .no
  ok := boolB .And x.ok y.ok
  need t := x.need t ∧ y.need t
  star _ _ h := boolB_star h
  snd {X G ck k Wx a} C h n := by
    obtain ⟨u, v, rest, q, rfl, h1, h2⟩ := boolB_some h
    have hy : PE X (.BoolOp .And (v :: rest) q) (tG (RV G) G Wx y.sem) := by
      cases rest with
      | nil => exact pe_one (y.snd C h2 n.2)
      | cons z w => exact y.snd C h2 n.2
    refine PE.imp (pe_and (x.snd C h1 n.1) hy) fun σ H Qv ⟨r, h, M, rl, re, k⟩ => ⟨r, h, M, rl, re, one k fun d v h1 M1 H1 e1 r1 b1 k1 => ?_⟩
    try dsimp only at k1
    split at k1
    · cases b1
      exact ⟨_, rfl, r, h1, M1, r1, re.ext C.gk rl e1, k1⟩
    · cases b1
      exact ⟨_, rfl, k1.here r1 (.bl _)⟩
    · exact k1.elim
def Xp.or (x y : Xp) : Xp where
  sem r h := (x.sem r h).bind fun d h1 => match d with
    | .bl false => y.sem r h1
    | .bl true => .ok (.bl true) h1
    | _ => .no
  ok := boolB .Or x.ok y.ok
  need t := x.need t ∧ y.need t
  star _ _ h := boolB_star h
  snd {X G ck k Wx a} C h n := by
    obtain ⟨u, v, rest, q, rfl, h1, h2⟩ := boolB_some h
    have hy : PE X (.BoolOp .Or (v :: rest) q) (tG (RV G) G Wx y.sem) := by
      cases rest with
      | nil => exact pe_one (y.snd C h2 n.2)
      | cons z w => exact y.snd C h2 n.2
    refine PE.imp (pe_or (x.snd C h1 n.1) hy) fun σ H Qv ⟨r, h, M, rl, re, k⟩ => ⟨r, h, M, rl, re, one k fun d v h1 M1 H1 e1 r1 b1 k1 => ?_⟩
    try dsimp only at k1
    split at k1
    · cases b1
      exact ⟨_, rfl, r, h1, M1, r1, re.ext C.gk rl e1, k1⟩
    · cases b1
      exact ⟨_, rfl, k1.here r1 (.bl _)⟩
    · exact k1.elim
def Xp.not (x : Xp) : Xp where
  sem r h := (x.sem r h).bind fun d h1 => match d with
    | .bl b => .ok (.bl (!b)) h1
    | _ => .no
  ok ck a := match a with
    | .UnaryOp .Not y _ => x.ok ck y
    | _ => false
  need := x.need
  star _ a h := by cases a <;> first | rfl | (simp at h)
  snd {X G ck k Wx a} C h n := by
    split at h
    · refine PE.imp (pe_not (x.snd C h n)) fun σ H Qv ⟨r, h, M, rl, re, k⟩ => ⟨r, h, M, rl, re, one k fun d v h1 M1 H1 e1 r1 b1 k1 => ?_⟩
      try dsimp only at k1
      split at k1
      · cases b1
        exact ⟨_, rfl, k1.here r1 (.bl _)⟩
      · exact k1.elim
    · cases h
def Xp.ite (t : Xt) (x y : Xp) : Xp where
  sem r h := (t.sem r h).bind fun d h1 => if d then x.sem r h1 else y.sem r h1
  ok ck a := match a with
    | .IfExp c u v _ => t.ok ck c && x.ok ck u && y.ok ck v
    | _ => false
  need z := t.need z ∧ x.need z ∧ y.need z
  star _ a h := by cases a <;> first | rfl | (simp at h)
  snd {X G ck k Wx a} C h n := by
    split at h
    · simp only [Bool.and_eq_true] at h
      refine PE.imp (pe_ifExp (t.snd C h.1.1 n.1) (x.snd C h.1.2 n.2.1) (y.snd C h.2 n.2.2)) fun σ H Qv ⟨r, h, M, rl, re, k⟩ => ⟨r, h, M, rl, re, one k fun d v h1 M1 H1 e1 r1 b1 k1 => ?_⟩
      cases b1
      cases d with
      | true => exact ⟨r, h1, M1, r1, re.ext C.gk rl e1, k1⟩
      | false => exact ⟨r, h1, M1, r1, re.ext C.gk rl e1, k1⟩
    · cases h
/-- a < b < c -/
def chainB (o p : CmpOp) (x y z : Ck → Expr → Bool) (ck : Ck) (a : Expr) : Bool := match a with
  | .Compare u [q, s] [v, w] _ => decide (q = o) && decide (s = p) && x ck u && y ck v && z ck w && notSet w
  | _ => false
theorem chainB_some {o p : CmpOp} {x y z : Ck → Expr → Bool} {ck : Ck} {a : Expr} (h : chainB o p x y z ck a = true) : ∃ u v w q, a = .Compare u [o, p] [v, w] q ∧ x ck u = true ∧ y ck v = true ∧ z ck w = true ∧ notSet w = true := by
  unfold chainB at h
  split at h
  · simp only [Bool.and_eq_true, decide_eq_true_eq] at h
    obtain ⟨⟨⟨⟨⟨rfl, rfl⟩, h1⟩, h2⟩, h3⟩, h4⟩ := h
    exact ⟨_, _, _, _, rfl, h1, h2, h3, h4⟩
  · cases h
def chainS (o p : CmpOp) (x y z : Xo) (r : Rho) (h : Hh) : Res D := (x.sem r h).bind fun d h1 => (y.sem r h1).bind fun e h2 => (ofO (on2 (cmpE o) h2 d e) h2).bind fun b h3 => if b then (z.sem r h3).bind fun f h4 => ofB (on2 (cmpE p) h4 e f) h4 else .ok (.bl false) h3
theorem chain_rd {X : Cx} {G : Gx} {ck : Ck} {k : Nat} {Wx : WX} (C : Cok X G ck k Wx) {σ : St} {H : Hp} {M : Mp} {h : Hh} {r : Rho} {o p : CmpOp} {x y z : Xo} {Qv : VK} (rl : RL G h M H) (re : RE G M H r σ) (k1 : KG (RV G) G Wx σ M H Qv (chainS o p x y z r h)) :
    tChain (rC2 G (cmpE o)) (rC2 G (cmpE p)) (tG (RB G) G Wx x.sem) (tG (RB G) G Wx y.sem) (tG (RB G) G Wx z.sem) σ H Qv := by
  unfold chainS at k1
  refine ⟨r, h, M, rl, re, one k1 fun d v h1 M1 H1 e1 r1 b1 k1 => ⟨r, h1, M1, r1, re.ext C.gk rl e1, one k1 fun e u h2 M2 H2 e2 r2 b2 k2 => ?_⟩⟩
  cases q : on2 (cmpE o) h2 d e with
  | none => rw [q] at k2; exact k2.elim
  | some c =>
    rw [q] at k2
    simp only [ofO_some, bind_ok] at k2
    refine ⟨d, e, h2, M2, .bl c, r2, b1.ext C.gk r1 e2, b2, by rw [← on2_map, q]; rfl, fun w M3 H3 e3 r3 rv => ?_⟩
    cases rv
    refine ⟨c, rfl, ?_⟩
    cases c with
    | false => exact k2 _ M3 H3 e3 r3 (.bl _)
    | true =>
      simp only [if_true] at k2 ⊢
      have k3 := k2.back e3
      refine ⟨r, h2, M3, r3, ((re.ext C.gk rl e1).ext C.gk r1 e2).ext C.gk r2 e3, one k3 fun f w h4 M4 H4 e4 r4 b4 k4 => ?_⟩
      unfold ofB at k4
      rw [on2_map] at k4
      exact fin2 k4 r4 ((b2.ext C.gk r2 e3).ext C.gk r3 e4) b4
def Xp.chain (o p : CmpOp) (x y z : Xo) : Xp where
  sem := chainS o p x y z
  ok := chainB o p x.ok y.ok z.ok
  need t := x.need t ∧ y.need t ∧ z.need t
  star _ a h := by obtain ⟨u, v, w, q, rfl, _⟩ := chainB_some h; rfl
  snd {X G ck k Wx a} C h n := by
    obtain ⟨u, v, w, q, rfl, h1, h2, h3, h4⟩ := chainB_some h
    exact PE.imp (pe_chain (op_cmpD C.gk C.hK (room65 C.room) o) (op_cmpD C.gk C.hK (room65 C.room) p) (x.snd C h1 n.1) (y.snd C h2 n.2.1) (z.snd C h3 n.2.2) (nomarkS (o := p) h4)) fun σ H Qv ⟨r, h, M, rl, re, k⟩ => chain_rd C rl re k
def toB : D → Option Bool
  | .bl b => some b
  | _ => none
def Xt.chain (o p : CmpOp) (x y z : Xo) : Xt where
  sem r h := (chainS o p x y z r h).bind fun d h1 => ofO (toB d) h1
  ok := chainB o p x.ok y.ok z.ok
  need t := x.need t ∧ y.need t ∧ z.need t
  snd {X G ck k Wx a} C h n := by
    obtain ⟨u, v, w, q, rfl, h1, h2, h3, h4⟩ := chainB_some h
    refine PT.imp (pt_chain (op_cmpD C.gk C.hK (room65 C.room) o) (op_cmpD C.gk C.hK (room65 C.room) p) (x.snd C h1 n.1) (y.snd C h2 n.2.1) (z.snd C h3 n.2.2) (nomarkS (o := p) h4)) fun σ H Qv ⟨r, h, M, rl, re, k⟩ => chain_rd C rl re (one k fun d v h1 M1 H1 e1 r1 b1 k1 => ?_)
    cases d <;> simp only [toB, ofO_some, ofO_none] at k1 <;> first
      | exact k1.elim
      | (cases b1; exact ⟨_, rfl, k1 _ M1 H1 Ext.refl r1 rfl⟩)
def Xp.ix (x y : Xo) : Xp where
  sem r h := (x.sem r h).bind fun d h1 => (y.sem r h1).bind fun e h2 => ofO (on2 ixE h2 d e) h2
  ok ck a := match a with
    | .Subscript u v _ => x.ok ck u && y.ok ck v && notSlice v
    | _ => false
  need t := x.need t ∧ y.need t
  star _ a h := by cases a <;> first | rfl | (simp at h)
  snd {X G ck k Wx a} C h n := by
    split at h
    · simp only [Bool.and_eq_true] at h
      exact PE.imp (pe_ix (ix_D C.hK) (x.snd C h.1.1 n.1) (y.snd C h.1.2 n.2) (plainIx_of h.2)) fun σ H Qv ⟨r, h, M, rl, re, k⟩ => ⟨r, h, M, rl, re, one k fun d v h1 M1 H1 e1 r1 b1 k1 =>
        ⟨r, h1, M1, r1, re.ext C.gk rl e1, one k1 fun e u h2 M2 H2 e2 r2 b2 k2 => fin2 k2 r2 (b1.ext C.gk r1 e2) b2⟩⟩
    · cases h
/-- an end of a slice -/
def semO : Option Xp → Rho → Hh → Res (Option Int)
  | none, _, h => .ok none h
  | some x, r, h => (x.sem r h).bind fun d h1 => match d with
    | .int i => .ok (some i) h1
    | _ => .no
def okO : Option Xp → Ck → Option Expr → Bool
  | none, _, e => e.isNone
  | some x, ck, e => match e with
    | some y => x.ok ck y
    | none => false
def needO : Option Xp → Tb → Prop
  | none, _ => True
  | some x, t => x.need t
theorem sndO (o : Option Xp) {X : Cx} {G : Gx} {ck : Ck} {k : Nat} {Wx : WX} {a : Option Expr} (C : Cok X G ck k Wx) (h : okO o ck a = true) (n : needO o (tbOf X G k)) : PO X a (tG (fun _ _ (b c : Option Int) => b = c) G Wx (semO o)) := by
  cases o with
  | none =>
    cases a with
    | some a => simp [okO] at h
    | none => exact ⟨fun pins s σ H Qv I ⟨r, h, M, rl, re, k⟩ => po_none.run pins s σ H Qv I (k _ M H Ext.refl rl rfl)⟩
  | some x =>
    cases a with
    | none => simp [okO] at h
    | some a =>
      refine ⟨fun pins s σ H Qv I ⟨r, h', M, rl, re, k⟩ => (po_some (x.snd C h n)).run pins s σ H Qv I ⟨r, h', M, rl, re, one k fun d v h1 M1 H1 e1 r1 b1 k1 => ?_⟩⟩
      try dsimp only at k1
      split at k1
      · cases b1
        exact ⟨_, rfl, k1 _ M1 H1 Ext.refl r1 rfl⟩
      · exact k1.elim
def Xp.sl (x : Xo) (lo hi : Option Xp) : Xp where
  sem r h := (x.sem r h).bind fun d h1 => (semO lo r h1).bind fun l h2 => (semO hi r h2).bind fun u h3 => ofO (on1 (slE · l u) h3 d) h3
  ok ck a := match a with
    | .Subscript u (.Slice l w none _) _ => x.ok ck u && okO lo ck l && okO hi ck w
    | _ => false
  need t := x.need t ∧ needO lo t ∧ needO hi t
  star _ a h := by cases a <;> first | rfl | (simp at h)
  snd {X G ck k Wx a} C h n := by
    split at h
    · simp only [Bool.and_eq_true] at h
      refine PE.imp (pe_slice (sl_D C.gk C.hK) (x.snd C h.1.1 n.1) (sndO lo C h.1.2 n.2.1) (sndO hi C h.2 n.2.2)) fun σ H Qv ⟨r, h, M, rl, re, k⟩ => ⟨r, h, M, rl, re, one k fun d v h1 M1 H1 e1 r1 b1 k1 =>
        ⟨r, h1, M1, r1, re.ext C.gk rl e1, one k1 fun e u h2 M2 H2 e2 r2 b2 k2 => ⟨r, h2, M2, r2, (re.ext C.gk rl e1).ext C.gk r1 e2, one k2 fun f w h3 M3 H3 e3 r3 b3 k3 => ?_⟩⟩⟩
      cases b2; cases b3
      cases q : on1 (slE · e f) h3 d with
      | none => rw [q] at k3; exact k3.elim
      | some z => rw [q] at k3; exact ⟨d, h3, M3, z, r3, (b1.ext C.gk r1 e2).ext C.gk r2 e3, q, k3⟩
    · cases h
end Pf

set_option Elab.async false
set_option linter.all false
set_option maxRecDepth 100000
/-! ## Arguments, calls, new things -/
namespace Pf
open PySem L2
inductive RBs (G : Gx) (M : Mp) (H : Hp) : List D → List V → Prop
  | nil : RBs G M H [] []
  | cons {d : D} {v : V} {l : List D} {xs : List V} : RB G M H d v → RBs G M H l xs → RBs G M H (d :: l) (v :: xs)
/-! ### arguments -/
def semA : List Xp → Rho → Hh → Res (List D)
  | [], _, h => .ok [] h
  | x :: xs, r, h => (x.sem r h).bind fun d h1 => (semA xs r h1).bind fun ds h2 => .ok (d :: ds) h2
def okA : List Xp → Ck → List Expr → Bool
  | [], _, es => es.isEmpty
  | x :: xs, ck, es => match es with
    | e :: r => x.ok ck e && okA xs ck r
    | [] => false
def needA : List Xp → Tb → Prop
  | [], _ => True
  | x :: xs, t => x.need t ∧ needA xs t
def semB : List Xo → Rho → Hh → Res (List D)
  | [], _, h => .ok [] h
  | x :: xs, r, h => (x.sem r h).bind fun d h1 => (semB xs r h1).bind fun ds h2 => .ok (d :: ds) h2
def okB : List Xo → Ck → List Expr → Bool
  | [], _, es => es.isEmpty
  | x :: xs, ck, es => match es with
    | e :: r => x.ok ck e && okB xs ck r
    | [] => false
def needB : List Xo → Tb → Prop
  | [], _ => True
  | x :: xs, t => x.need t ∧ needB xs t
theorem star_cons {a : Expr} {es : List Expr} (h : notStar a = true) (env : Env) : starEach (a :: es) env = (false, eval a env) :: starEach es env := by
  cases a <;> first | rfl | (simp [notStar] at h)
theorem okA_star : ∀ {xs : List Xp} {ck : Ck} {es : List Expr}, okA xs ck es = true → es.all notStar = true
  | [], _, es, h => by
    cases es with
    | nil => rfl
    | cons a b => simp [okA] at h
  | x :: xs, ck, es, h => by
    cases es with
    | nil => rfl
    | cons a b =>
      simp only [okA, Bool.and_eq_true] at h
      simp only [List.all_cons, Bool.and_eq_true]
      exact ⟨x.star _ _ h.1, okA_star h.2⟩
theorem okB_star : ∀ {xs : List Xo} {ck : Ck} {es : List Expr}, okB xs ck es = true → es.all notStar = true
  | [], _, es, h => by
    cases es with
    | nil => rfl
    | cons a b => simp [okB] at h
  | x :: xs, ck, es, h => by
    cases es with
    | nil => rfl
    | cons a b =>
      simp only [okB, Bool.and_eq_true] at h
      simp only [List.all_cons, Bool.and_eq_true]
      exact ⟨x.star _ _ h.1, okB_star h.2⟩
theorem sndA : ∀ (xs : List Xp) {X : Cx} {G : Gx} {ck : Ck} {k : Nat} {Wx : WX} {es : List Expr}, Cok X G ck k Wx → okA xs ck es = true → needA xs (tbOf X G k) → PA X es (tG (RVs G) G Wx (semA xs))
  | [], X, G, ck, k, Wx, es, C, h, n => by
    cases es with
    | cons a b => simp [okA] at h
    | nil => exact PA.imp pa_nil fun σ H Qv ⟨r, h, M, rl, re, k⟩ => k.here rl .nil
  | x :: xs, X, G, ck, k, Wx, es, C, h, n => by
    cases es with
    | nil => simp [okA] at h
    | cons a b =>
      simp only [okA, Bool.and_eq_true] at h
      exact PA.imp (pa_cons (x.snd C h.1 n.1) (sndA xs C h.2 n.2) (star_cons (x.star _ _ h.1) _)) fun σ H Qv ⟨r, h, M, rl, re, k⟩ => ⟨r, h, M, rl, re, one k fun d v h1 M1 H1 e1 r1 b1 k1 =>
        ⟨r, h1, M1, r1, re.ext C.gk rl e1, one k1 fun e u h2 M2 H2 e2 r2 b2 k2 => k2.here r2 (.cons (b1.ext C.gk r1 e2) b2)⟩⟩
theorem sndB : ∀ (xs : List Xo) {X : Cx} {G : Gx} {ck : Ck} {k : Nat} {Wx : WX} {es : List Expr}, Cok X G ck k Wx → okB xs ck es = true → needB xs (tbOf X G k) → PA X es (tG (RBs G) G Wx (semB xs))
  | [], X, G, ck, k, Wx, es, C, h, n => by
    cases es with
    | cons a b => simp [okB] at h
    | nil => exact PA.imp pa_nil fun σ H Qv ⟨r, h, M, rl, re, k⟩ => k.here rl .nil
  | x :: xs, X, G, ck, k, Wx, es, C, h, n => by
    cases es with
    | nil => simp [okB] at h
    | cons a b =>
      simp only [okB, Bool.and_eq_true] at h
      exact PA.imp (pa_cons (x.snd C h.1 n.1) (sndB xs C h.2 n.2) (star_cons (x.star _ _ h.1) _)) fun σ H Qv ⟨r, h, M, rl, re, k⟩ => ⟨r, h, M, rl, re, one k fun d v h1 M1 H1 e1 r1 b1 k1 =>
        ⟨r, h1, M1, r1, re.ext C.gk rl e1, one k1 fun e u h2 M2 H2 e2 r2 b2 k2 => k2.here r2 (.cons (b1.ext C.gk r1 e2) b2)⟩⟩
/-- a tuple -/
def Xp.tup (xs : List Xp) : Xp where
  sem r h := (semA xs r h).bind fun ds h1 => if ds.length ≤ line then .ok (.tup ds) h1 else .no
  ok ck a := match a with
    | .Tuple es _ _ => okA xs ck es
    | _ => false
  need := needA xs
  star _ a h := by cases a <;> first | rfl | (simp at h)
  snd {X G ck k Wx a} C h n := by
    split at h
    · refine PE.imp (pe_tup (sndA xs C h n)) fun σ H Qv ⟨r, h, M, rl, re, k⟩ => ⟨r, h, M, rl, re, one k fun d v h1 M1 H1 e1 r1 b1 k1 => ?_⟩
      split at k1
      · rename_i hl
        exact ⟨by rw [← b1.length, ← line_eq]; exact hl, fun p hp => KP.newTup C.gk k1 r1 b1 p hp⟩
      · exact k1.elim
    · cases h

/-! ### new things -/
def RN (Hs : Hp) (G : Gx) (M : Mp) (H : Hp) (d : D) (v : V) : Prop := ∃ a, v = .ref a ∧ RO G M H a d ∧ a ∉ M.bs ∧ ¬ M.F a ∧ Hs a = none
def tN (G : Gx) (Wx : WX) (sem : Rho → Hh → Res D) : TE := fun σ H Qv => ∃ r h M, RL G h M H ∧ RE G M H r σ ∧ KG (RN H G) G Wx σ M H Qv (sem r h)
structure Xn where
  sem : Rho → Hh → Res D
  ok : Ck → Expr → Bool
  need : Tb → Prop
  star : ∀ ck a, ok ck a = true → notStar a = true
  snd : ∀ {X : Cx} {G : Gx} {ck : Ck} {k : Nat} {Wx : WX} {a : Expr}, Cok X G ck k Wx → ok ck a = true → need (tbOf X G k) → PE X a (tN G Wx sem)
section
variable {G : Gx} {Wx : WX} {σ : St} {h : Hh} {M M' : Mp} {H H' : Hp} {Qv : VK} {d : D} {v : V} {p : Addr}
theorem Ext.adF (e : Ext M H M' H') (hp : H p = none) : Ext M H (M'.fr p) H' := ⟨e.keep, e.trk, fun b h => .inl (e.fz b h), e.pre, fun b z => by
  rcases z with z | z
  · exact e.newF b z
  · subst z; exact .inr (.inr (.inl hp))⟩
theorem Ext.adB (e : Ext M H M' H') (hp : H p = none) : Ext M H (M'.pu p) H' := ⟨e.keep, e.trk, e.fz, by
  obtain ⟨l, h1, h2⟩ := e.pre
  refine ⟨l ++ [p], by show M'.bs ++ [p] = _; rw [h1, List.append_assoc], fun b hb => ?_⟩
  rcases List.mem_append.mp hb with z | z
  · exact h2 b z
  · simp at z; subst z; exact hp, e.newF⟩
theorem Ext.loose {o : HO} (hp : H p = none) : Ext M H M (upd H p o) where
  keep := fun b u e _ _ => by rw [upd_ne (ne_of_none e hp)]; exact e
  trk := fun b e => by
    by_cases z : b = p
    · subst z; exact hp
    · rw [upd_ne z] at e; exact e
  fz := fun b e => e
  pre := ⟨[], by simp, by simp⟩
  newF := fun b e => .inl e
/-- the thing, written no more -/
theorem RO.fz (gk : Gk G) (nd : ∀ l, d ≠ .dct l) (ro : RO G M H p d) : RV G (M.fr p) H d (.ref p) := by
  have ro' : RO G (M.fr p) H p d := RO.keep gk (M := M) (M' := M.fr p) ⟨fun a z => ⟨Or.inl z, fun _ w => w⟩, fun _ _ w => w⟩ (fun _ w => w) ro
  have hF : (M.fr p).F p := .inr rfl
  cases ro with
  | lst => exact .lst hF ro'
  | dct => exact absurd rfl (nd _)
  | dcn => exact .dcn hF ro'
  | set => exact .set hF ro'
  | ins => exact .ins hF ro'
  | sl0 => exact .ins hF ro'
  | sl1 => exact .ins hF ro'
theorem kn_fz (gk : Gk G) {m : Res D} (nd : ∀ d h', m = .ok d h' → ∀ l, d ≠ .dct l) (k : KG (RV G) G Wx σ M H Qv m) : KG (RN H G) G Wx σ M H Qv m := by
  cases m with
  | no => exact k
  | exc c fs h' => exact k
  | ok d h' =>
    rintro v M' H' e rl ⟨a, rfl, ro, n, nf, hn⟩
    obtain ⟨u, q, y⟩ := ro.some
    exact k _ _ _ (e.adF hn) (rl.adoptF gk n q y) (ro.fz gk (nd _ _ rfl))
theorem Ext.up (e : Ext M H M' H') {o : HO} (hp : H p = none) : Ext M H M' (upd H' p o) := ⟨fun b u hb nb yb => by rw [upd_ne (fun z => by subst z; rw [hp] at hb; cases hb)]; exact e.keep b u hb nb yb, fun b hb => by
  by_cases z : b = p
  · subst z; exact hp
  · rw [upd_ne z] at hb; exact e.trk b hb, e.fz, e.pre, e.newF⟩
/-- a new thing, written no more; a dict is locked -/
theorem pe_fz {X : Cx} {a : Expr} {sem : Rho → Hh → Res D} (gk : Gk G) (h : PE X a (tN G Wx sem)) : PE X a (tG (RV G) G Wx sem) := ⟨fun pins s σ H Q I ⟨r, hh, M, rl, re, k⟩ => by
  refine thn (h.run pins s σ H (fun v H1 => Q v H1 ∨ ∃ p ks, v = .ref p ∧ H1 p = some (.dK ks) ∧ ∀ od, Q v (upd H1 p (.frz od (.dK ks)))) I ⟨r, hh, M, rl, re, ?_⟩) fun u s1 ⟨v, H1, I1, rv, q⟩ => ?_
  · cases e0 : sem r hh with
    | no => rw [e0] at k; exact k
    | exc c fs h' => rw [e0] at k; exact k
    | ok d h' =>
      rw [e0] at k
      rintro v M' H' e rl ⟨a, rfl, ro, n, nf, hn⟩
      obtain ⟨u, q, y⟩ := ro.some
      by_cases z : ∃ l, d = .dct l
      · obtain ⟨l, rfl⟩ := z
        cases ro with
        | dct q1 r1 =>
          rename_i ks
          refine .inr ⟨a, ks, rfl, q1, fun od => ?_⟩
          have kp : Keep M' H' (M'.fr a) (upd H' a (.frz od (.dK ks))) := ⟨fun b z => ⟨Or.inl z, fun o w => by rw [upd_ne (fun z' => nf (by rw [← z']; exact z))]; exact w⟩, fun _ _ w => w⟩
          exact k _ _ _ ((e.up hn).adF hn) ((rl.poke gk n nf (nt_some q1 trivial)).adoptF gk n upd_same trivial) (.dct (.inr rfl) upd_same (r1.keep gk kp))
      · exact .inl (k _ _ _ (e.adF hn) (rl.adoptF gk n q y) (ro.fz gk fun l z' => z ⟨l, z'⟩))
  · rcases q with q | ⟨p, ks, rfl, hp, q⟩
    · exact ⟨v, H1, I1, rv, q⟩
    · obtain ⟨od, I2⟩ := I1.lock hp trivial
      exact ⟨.ref p, _, I2, rv, q od⟩⟩
theorem kn_hp (gk : Gk G) {m : Res D} (k : KG (RV G) G Wx σ M H Qv (m.bind fun d h1 => .ok (.ref h1.length) (h1 ++ [d]))) : KG (RN H G) G Wx σ M H Qv m := by
  cases m with
  | no => exact k
  | exc c fs h' => exact k
  | ok d h' =>
    rintro v M' H' e rl ⟨a, rfl, ro, n, nf, hn⟩
    refine k _ (M'.pu a) _ (e.adB hn) (rl.adopt gk n nf ro) (.ref ?_)
    show (M'.bs ++ [a])[h'.length]? = _
    rw [rl.len]; simp
end
/-- a new thing that is written no more -/
def Xp.fz (x : Xn) : Xp where
  sem := x.sem
  ok := x.ok
  need := x.need
  star := x.star
  snd C h n := pe_fz C.gk (x.snd C h n)
/-- a new thing of the heap -/
def Xp.hp (x : Xn) : Xp where
  sem r h := (x.sem r h).bind fun d h1 => .ok (.ref h1.length) (h1 ++ [d])
  ok := x.ok
  need := x.need
  star := x.star
  snd C h n := PE.imp (x.snd C h n) fun σ H Qv ⟨r, h, M, rl, re, k⟩ => ⟨r, h, M, rl, re, kn_hp C.gk k⟩
theorem kn_list {G : Gx} {Wx : WX} {σ : St} {h : Hh} {M M1 : Mp} {H H1 : Hp} {Qv : VK} {ds : List D} {vs : List V} (gk : Gk G) (e1 : Ext M H M1 H1) (r1 : RL G h M1 H1) (rv : RVs G M1 H1 ds vs) (k1 : KG (RN H G) G Wx σ M1 H1 Qv (.ok (.lst ds) h)) (p : Addr) (hp : H1 p = none) : Qv (.ref p) (upd H1 p (.lst vs)) :=
  k1 _ M1 _ (Ext.loose hp) (r1.poke gk (r1.free hp) (r1.freeF hp) (nt_none hp)) ⟨p, rfl, .lst upd_same (rv.keep gk (Keep.new hp)), r1.free hp, r1.freeF hp, e1.trk _ hp⟩
/-- a list display -/
def Xn.lst (xs : List Xp) : Xn where
  sem r h := (semA xs r h).bind fun ds h1 => if ds.length ≤ line then .ok (.lst ds) h1 else .no
  ok ck a := match a with
    | .List es _ => okA xs ck es
    | _ => false
  need := needA xs
  star _ a h := by cases a <;> first | rfl | (simp at h)
  snd {X G ck k Wx a} C h n := by
    split at h
    · refine PE.imp (pe_lst (sndA xs C h n)) fun σ H Qv ⟨r, h, M, rl, re, k⟩ => ⟨r, h, M, rl, re, one k fun d v h1 M1 H1 e1 r1 b1 k1 => ?_⟩
      split at k1
      · rename_i hl
        exact ⟨by rw [← b1.length, ← line_eq]; exact hl, fun p hp => kn_list C.gk e1 r1 b1 k1 p hp⟩
      · exact k1.elim
    · cases h

/-! ### a def is called -/
theorem stars_of : ∀ {es : List Expr}, es.all notStar = true → ∀ {p : Pos} {env : Env}, (backTo p (starEach es env)).any (·.1) = false
  | [], _, _, _ => rfl
  | a :: es, h, p, env => by
    simp only [List.all_cons, Bool.and_eq_true] at h
    rw [star_cons h.1]
    have ih := stars_of h.2 (p := p) (env := env)
    unfold backTo at ih ⊢
    simpa using ih
section
variable {X : Cx} {G : Gx} {ck : Ck} {k : Nat} {Wx : WX} {σ : St} {H : Hp} {M : Mp} {h : Hh}
theorem run_L (C : Cok X G ck k Wx) {f : Addr} {fd : FuncData} {ps : List Str} {F : Fsem} {pins : List (Addr × Obj)} {s : Shared} {us : List Value} {vs : List V} {ds : List D} {Qv : VK} (Fo : FnOk X.prog X.w X.K X.mg X.base (CX X.prog X.w) k f fd ps (lift G F)) (hb : Binds X.K fd ps [])
    (I : Inv X pins σ H s) (r : Vals vs us) (rl : RL G h M H) (rd : RVs G M H ds vs) (kq : KG (RV G) G Wx σ M H Qv (F ds h)) :
    wpAny (model X.prog X.w) X.A (call (.ref f) us) (EP X pins σ Qv) X.xe s := by
  have hp : lift G F vs H Qv (fun cls dx H' => Wx cls dx σ H') := ⟨ds, h, M, rl, rd, by
    cases q : F ds h with
    | no => rw [q] at kq; exact kq
    | ok d h' => rw [q] at kq; exact kq
    | exc c fs h' => rw [q] at kq; exact kq⟩
  have hb' := hb s us I.kIn (by rw [List.append_nil, ← r.length]; exact Fo.len _ _ _ _ hp)
  rw [List.append_nil] at hb'
  refine wpAny_call (codeAny_mono (Fo.run X.A X.stack s H ⟨us, []⟩ us vs Qv _ (C.room.mono (by omega)) I.env0 hb' r hp) fun r s' hq => ?_)
  cases r with
  | error e => exact C.tk e s' (XE.of_call I (fun cls d H' h => h) hq)
  | ok fl =>
    cases fl with
    | ret u => exact I.after hq
    | next => exact False.elim hq
    | brk => exact False.elim hq
    | cont => exact False.elim hq
end
def callB (f : Str) (xs : List Xp) (ck : Ck) (a : Expr) : Bool := match a with
  | .Call (.Name x _) es [] _ => x == f && globB ck x && okA xs ck es
  | _ => false
theorem callB_some {f : Str} {xs : List Xp} {ck : Ck} {a : Expr} (h : callB f xs ck a = true) : ∃ p es q, a = .Call (.Name f p) es [] q ∧ globB ck f = true ∧ okA xs ck es = true := by
  unfold callB at h
  split at h
  · simp only [Bool.and_eq_true, beq_iff_eq] at h
    obtain ⟨⟨rfl, h1⟩, h2⟩ := h
    exact ⟨_, _, _, rfl, h1, h2⟩
  · cases h
/-- a call of a def of the module; F is what it computes -/
def Xp.call (f : Str) (F : Fsem) (xs : List Xp) : Xp where
  sem r h := (semA xs r h).bind fun ds h1 => F ds h1
  ok := callB f xs
  need t := FnL t f F ∧ needA xs t
  star _ a h := by obtain ⟨p, es, q, rfl, _⟩ := callB_some h; rfl
  snd {X G ck k Wx a} C h n := by
    obtain ⟨p, es, q, rfl, hg, ho⟩ := callB_some h
    obtain ⟨g1, g2, g3⟩ := gl_of C hg
    obtain ⟨⟨af, fd, ps, hm, kp, hb, Fo⟩, n2⟩ := n
    dsimp only at hm kp hb Fo
    rw [C.hK, C.hmg] at Fo
    rw [C.hK] at hb kp
    rw [C.hmg] at hm
    have hA := sndA xs C ho n2
    have hst := okA_star ho
    refine ⟨fun pins s σ H Qv I ⟨r, hh, M, rl, re, k⟩ => ?_⟩
    refine wpAny_Call_Name_kw (ld_glob I g1 hm ?_ g2)
    have fin : ∀ {H1 : Hp} {s1 : Shared} {vs : List V} {us : List Value}, Inv X pins σ H1 s1 → Vals vs us → (∃ ds h1 M1, Ext M H M1 H1 ∧ RL G h1 M1 H1 ∧ RVs G M1 H1 ds vs ∧ KG (RV G) G Wx σ M1 H1 Qv (F ds h1)) → wpAny (model X.prog X.w) X.A (PySem.call (.ref af) us) (EP X pins σ Qv) X.xe s1 := by
      intro H1 s1 vs us I1 rv ⟨ds, h1, M1, e1, r1, rd, w1⟩
      exact run_L C Fo hb I1 rv r1 rd w1
    cases es with
    | nil =>
      refine PySem.W.callWith_K0 I.kIn kp ?_
      cases xs with
      | nil => exact fin I .nil ⟨[], hh, M, Ext.refl, rl, .nil, k⟩
      | cons a b => simp [okA] at ho
    | cons e1 es =>
      simp only [List.all_cons, Bool.and_eq_true] at hst
      exact PySem.W.callWith_K (h₀ := X.base) I.ok.mod.kin kp (thn (hA.run q pins s σ H (fun vs H1 => ∃ ds h1 M1, Ext M H M1 H1 ∧ RL G h1 M1 H1 ∧ RVs G M1 H1 ds vs ∧ KG (RV G) G Wx σ M1 H1 Qv (F ds h1)) I ⟨r, hh, M, rl, re, one k fun d v h1 M1 H1 e1 r1 b1 k1 => ⟨d, h1, M1, e1, r1, b1, k1⟩⟩) fun us s1 ⟨vs, H1, I1, r1, q⟩ => ⟨I1.kIn, fin I1 r1 q⟩) (star_cons hst.1 _) (stars_of hst.2)
end Pf

set_option Elab.async false
set_option linter.all false
set_option maxRecDepth 100000
/-! ## Built-in functions -/
namespace Pf
open PySem L2
theorem bt_len : bootBuiltins "len" = some (.builtin "len") := by decide +kernel
theorem bt_all : bootBuiltins "all" = some (.builtin "all") := by decide +kernel
theorem bt_max : bootBuiltins "max" = some (.builtin "max") := by decide +kernel
theorem bt_min : bootBuiltins "min" = some (.builtin "min") := by decide +kernel
theorem bt_sorted : bootBuiltins "sorted" = some (.builtin "sorted") := by decide +kernel
theorem bt_isi : bootBuiltins "isinstance" = some (.builtin "isinstance") := by decide +kernel
theorem bt_int : bootBuiltins "int" = some (.type "int") := by decide +kernel
theorem bt_bool : bootBuiltins "bool" = some (.type "bool") := by decide +kernel
theorem bt_str : bootBuiltins "str" = some (.type "str") := by decide +kernel
theorem bt_tuple : bootBuiltins "tuple" = some (.type "tuple") := by decide +kernel
theorem bt_list : bootBuiltins "list" = some (.type "list") := by decide +kernel
theorem bt_range : bootBuiltins "range" = some (.type "range") := by decide +kernel
def vws (h : Hh) : List D → Option (List D)
  | [] => some []
  | d :: l => (vw h d).bind fun x => (vws h l).bind fun xs => some (x :: xs)
inductive Vds (G : Gx) (M : Mp) (H : Hp) : List D → List V → Prop
  | nil : Vds G M H [] []
  | cons {d : D} {v : V} {l : List D} {xs : List V} : Vd G M H d v → Vds G M H l xs → Vds G M H (d :: l) (v :: xs)
theorem vws_ok {G : Gx} {h : Hh} {M : Mp} {H : Hp} (rl : RL G h M H) : ∀ {ds es : List D} {vs : List V}, RBs G M H ds vs → vws h ds = some es → Vds G M H es vs
  | _, _, _, .nil, e => by cases e; exact .nil
  | _, _, _, .cons b t, e => by
    simp only [vws] at e
    obtain ⟨x, e1, e⟩ := Option.bind_eq_some_iff.mp e
    obtain ⟨xs, e2, e⟩ := Option.bind_eq_some_iff.mp e
    cases e
    exact .cons (vw_ok rl b e1) (vws_ok rl t e2)
section
variable {G : Gx} {M : Mp} {H : Hp}
theorem Vds.one {d : D} {vs : List V} (x : Vds G M H [d] vs) : ∃ v, vs = [v] ∧ Vd G M H d v := by
  cases x with
  | cons h t => cases t; exact ⟨_, rfl, h⟩
theorem Vds.two {d e : D} {vs : List V} (x : Vds G M H [d, e] vs) : ∃ v u, vs = [v, u] ∧ Vd G M H d v ∧ Vd G M H e u := by
  cases x with
  | cons h t =>
    obtain ⟨u, rfl, r⟩ := t.one
    exact ⟨_, _, rfl, h, r⟩
end
def onL {α : Type} (f : List D → Option α) (h : Hh) (ds : List D) : Option α := (vws h ds).bind f
/-- a call's reading at data: a pure answer, a new thing -/
def rC (G : Gx) (f : List D → Option D) : List V → Hp → VK → Prop := fun vs H Qv => ∃ ds h M z, RL G h M H ∧ RBs G M H ds vs ∧ onL f h ds = some z ∧ KP G h M H z Qv
def rCN (G : Gx) (f : List D → Option D) : List V → Hp → VK → Prop := fun vs H Qv => ∃ ds h M z, RL G h M H ∧ RBs G M H ds vs ∧ onL f h ds = some z ∧ ∀ (xs : List D) (us : List V) (p : Addr), z = .lst xs → RVs G M H xs us → H p = none → Qv (.ref p) (upd H p (.lst us))
inductive Bi where
  | len | int | all | tuple | max2 | min2
  deriving DecidableEq
def blsOf : List D → Option (List Bool)
  | [] => some []
  | .bl b :: r => (blsOf r).map (b :: ·)
  | _ :: _ => none
theorem blsOf_map : ∀ {l : List D} {ns : List Bool}, blsOf l = some ns → l = ns.map D.bl
  | [], ns, h => by unfold blsOf at h; cases h; rfl
  | d :: l, ns, h => by
    cases d <;> unfold blsOf at h <;> try cases h
    cases e : blsOf l with
    | none => rw [e] at h; cases h
    | some m => rw [e] at h; cases h; rw [blsOf_map e]; rfl
theorem RVs.bls {G : Gx} {M : Mp} {H : Hp} : ∀ {ns : List Bool} {xs : List V}, RVs G M H (ns.map D.bl) xs → xs = ns.map V.bl
  | [], _, h => by cases h; rfl
  | n :: ns, _, h => by
    cases h with
    | cons h t =>
      cases h
      rw [RVs.bls t]; rfl
def lenE : D → Option D
  | .str x => if x.length ≤ line then some (.int x.length) else none
  | d => (items d).map fun l => .int l.length
def biE (f : Bi) (ds : List D) : Option D :=
  match f, ds with
  | .len, [d] => lenE d
  | .int, [.int i] => some (.int i)
  | .int, [.bl b] => some (.int (if b then 1 else 0))
  | .max2, [.int i, .int j] => some (.int (if j > i then j else i))
  | .min2, [.int i, .int j] => some (.int (if j < i then j else i))
  | .all, [.lst l] => (blsOf l).map fun bs => .bl (bs.all id)
  | .tuple, [d] => (items d).map D.tup
  | _, _ => none
def biName : Bi → Str
  | .len => "len" | .int => "int" | .all => "all" | .tuple => "tuple" | .max2 => "max" | .min2 => "min"
def biVal : Bi → Value
  | .len => .builtin "len" | .int => .type "int" | .all => .builtin "all" | .tuple => .type "tuple" | .max2 => .builtin "max" | .min2 => .builtin "min"
theorem bi_boot (f : Bi) : bootBuiltins (biName f) = some (biVal f) := by
  cases f
  · exact bt_len
  · exact bt_int
  · exact bt_all
  · exact bt_tuple
  · exact bt_max
  · exact bt_min
section
variable {X : Cx} {G : Gx}
theorem bi_D (gk : Gk G) (hK : G.K = X.K) (hc : X.calm = true) (f : Bi) : CallR X (biVal f) (rC G (biE f)) := by
  intro pins s σ H vs us Qv I rv ⟨ds, h, M, z, rl, rd, ez, k⟩
  obtain ⟨es, e1, w⟩ := Option.bind_eq_some_iff.mp ez
  have rd := vws_ok rl rd e1
  unfold biE at w
  split at w
  · obtain ⟨v, rfl, r1⟩ := rd.one
    unfold lenE at w
    split at w
    · split at w
      · rename_i hl
        cases w
        cases r1.rv trivial
        exact call_len_str pins s σ H _ us Qv I rv ⟨_, rfl, by rw [tS_len, ← line_eq]; exact hl, by rw [tS_len]; exact k.here rl (.int _)⟩
      · cases w
    · obtain ⟨l, e2, w⟩ := Option.map_eq_some_iff.mp w
      subst w
      obtain ⟨p, ws, rfl, r2, ⟨q1, _⟩ | ⟨q1, _⟩⟩ := r1.seq hK e2
      · exact call_len_seq pins s σ H _ us Qv I rv ⟨_, _, rfl, .inl q1, by rw [← r2.length]; exact k.here rl (.int _)⟩
      · exact call_len_seq pins s σ H _ us Qv I rv ⟨_, _, rfl, .inr q1, by rw [← r2.length]; exact k.here rl (.int _)⟩
  · cases w
    obtain ⟨v, rfl, r1⟩ := rd.one
    cases r1.rv trivial
    exact call_int1 pins s σ H _ us Qv I rv (.inl ⟨_, rfl, k.here rl (.int _)⟩)
  · cases w
    obtain ⟨v, rfl, r1⟩ := rd.one
    cases r1.rv trivial
    exact call_int1 pins s σ H _ us Qv I rv (.inr ⟨_, rfl, k.here rl (.int _)⟩)
  · cases w
    obtain ⟨v, u, rfl, r1, r2⟩ := rd.two
    cases r1.rv trivial; cases r2.rv trivial
    exact call_max2 hc pins s σ H _ us Qv I rv ⟨_, _, rfl, k.here rl (.int _)⟩
  · cases w
    obtain ⟨v, u, rfl, r1, r2⟩ := rd.two
    cases r1.rv trivial; cases r2.rv trivial
    exact call_min2 hc pins s σ H _ us Qv I rv ⟨_, _, rfl, k.here rl (.int _)⟩
  · obtain ⟨bs, e2, w⟩ := Option.map_eq_some_iff.mp w
    subst w
    obtain ⟨v, rfl, r1⟩ := rd.one
    obtain ⟨p, ws, rfl, h1, r2⟩ := r1.lst
    have eb := blsOf_map e2
    subst eb
    have e2 := RVs.bls r2
    subst e2
    exact cr_all hc pins s σ H _ us Qv I rv ⟨_, _, rfl, SqL.of h1, k.here rl (.bl _)⟩
  · obtain ⟨l, e2, w⟩ := Option.map_eq_some_iff.mp w
    subst w
    obtain ⟨v, rfl, r1⟩ := rd.one
    have r1' := r1
    obtain ⟨p, ws, rfl, r2, ⟨q1, _⟩ | ⟨q1, q2⟩⟩ := r1.seq hK e2
    · exact call_tuple_of pins s σ H _ us Qv I rv ⟨_, _, rfl, .inl ⟨q1, fun p hp => k.newTup gk rl r2 p hp⟩⟩
    · subst q2
      exact call_tuple_of pins s σ H _ us Qv I rv ⟨_, _, rfl, .inr ⟨q1, k.here rl (r1'.rv trivial)⟩⟩
  · cases w

/-! list(..), sorted(..) -/
inductive Bn where
  | list | sorted
  deriving DecidableEq
def sortB : PyData → Bool
  | .tuple (_ :: _) => true
  | _ => false
def sortC : PyData → Bool
  | .none => false
  | .tuple _ => false
  | _ => true
/-- may these be sorted -/
def sortOk (l : List D) : Bool := l.all (dep 58) && l.all (fun a => l.all fun b => PySem.W.alike (pd a) (pd b)) && (l.all (fun a => sortB (pd a)) || l.all (fun a => sortC (pd a)))
def sortD (l : List D) : List D := l.mergeSort (PySem.W.dataLe false pd)
def itemsL : D → Option (List D)
  | .lst l => some l
  | .lsc l => some l
  | _ => none
theorem itemsL_some {d : D} {l : List D} (h : itemsL d = some l) : items d = some l ∧ d ≠ .tup l := by
  cases d <;> simp [itemsL] at h <;> subst h <;> exact ⟨rfl, fun z => nomatch z⟩
def bnE (f : Bn) (ds : List D) : Option D :=
  match f, ds with
  | .list, [d] => (items d).map D.lst
  | .sorted, [d] => (itemsL d).bind fun l => if sortOk l && decide (l.length ≤ line) then some (.lst (sortD l)) else none
  | _, _ => none
def bnName : Bn → Str
  | .list => "list" | .sorted => "sorted"
def bnVal : Bn → Value
  | .list => .type "list" | .sorted => .builtin "sorted"
theorem bn_boot (f : Bn) : bootBuiltins (bnName f) = some (bnVal f) := by
  cases f
  · exact bt_list
  · exact bt_sorted
theorem each_of {M : Mp} {H : Hp} {pins : List (Addr × Obj)} {s : Shared} {σ : St} (hK : G.K = X.K) (I : Inv X pins σ H s) : ∀ {l : List D} {vs : List V} {us : List Value}, (∀ d ∈ l, dep 58 d = true) → RVs G M H l vs → Vals vs us →
    PySem.W.EachIs (fun v c => ∃ x, RelV x v ∧ RV G M H c x) us l ∧ PySem.W.EachIs (fun v c => ∃ as, Reads s.heap v (pd c) as) us l
  | [], _, _, _, rv, ru => by cases rv; cases ru; exact ⟨.nil, .nil⟩
  | c :: cs, _, _, hd, rv, ru => by
    cases rv with
    | cons r1 r2 =>
      cases ru with
      | cons u1 u2 =>
        obtain ⟨h1, h2⟩ := each_of hK I (fun d q => hd d (List.mem_cons_of_mem _ q)) r2 u2
        exact ⟨.cons ⟨_, u1, r1⟩ h1, .cons (Dp.reads I _ _ _ (r1.dp hK (hd c List.mem_cons_self)) u1) h2⟩
theorem each_back {M : Mp} {H : Hp} : ∀ {l : List D} {us : List Value}, PySem.W.EachIs (fun v c => ∃ x, RelV x v ∧ RV G M H c x) us l → ∃ vs, Vals vs us ∧ RVs G M H l vs
  | _, _, .nil => ⟨[], .nil, .nil⟩
  | _, _, .cons h t => by
    obtain ⟨x, r1, r2⟩ := h
    obtain ⟨vs, h1, h2⟩ := each_back t
    exact ⟨x :: vs, .cons r1 h1, .cons r2 h2⟩
theorem sortOk_some {l : List D} (h : sortOk l = true) : (∀ d ∈ l, dep 58 d = true) ∧ PySem.W.AllAlike (l.map pd) ∧ PySem.W.Sortable (l.map pd) := by
  unfold sortOk at h
  simp only [Bool.and_eq_true, Bool.or_eq_true, List.all_eq_true] at h
  obtain ⟨⟨h1, h2⟩, h3⟩ := h
  refine ⟨h1, fun d hd d' hd' => ?_, ?_⟩
  · obtain ⟨a, ha, rfl⟩ := List.mem_map.mp hd
    obtain ⟨b, hb, rfl⟩ := List.mem_map.mp hd'
    exact h2 a ha b hb
  · rcases h3 with h3 | h3
    · refine .inl fun d hd => ?_
      obtain ⟨a, ha, rfl⟩ := List.mem_map.mp hd
      have := h3 a ha
      unfold sortB at this
      split at this
      · rename_i x r e; exact ⟨x, r, e⟩
      · cases this
    · refine .inr fun d hd => ?_
      obtain ⟨a, ha, rfl⟩ := List.mem_map.mp hd
      have := h3 a ha
      refine ⟨fun z => ?_, fun xs z => ?_⟩ <;> rw [z] at this <;> simp [sortC] at this
theorem bn_D (hK : G.K = X.K) {kk : Nat} (hr : Room kk X.A) (f : Bn) : CallR X (bnVal f) (rCN G (bnE f)) := by
  intro pins s σ H vs us Qv I rv ⟨ds, h, M, z, rl, rd, ez, k⟩
  obtain ⟨es, e1, w⟩ := Option.bind_eq_some_iff.mp ez
  have rd := vws_ok rl rd e1
  unfold bnE at w
  split at w
  · obtain ⟨l, e2, w⟩ := Option.map_eq_some_iff.mp w
    obtain ⟨v, rfl, r1⟩ := rd.one
    obtain ⟨p, ws, rfl, r2, ⟨q1, _⟩ | ⟨q1, _⟩⟩ := r1.seq hK e2
    · exact call_list_of pins s σ H _ us Qv I rv ⟨_, _, rfl, .inl q1, fun p hp => k _ _ p w.symm r2 hp⟩
    · exact call_list_of pins s σ H _ us Qv I rv ⟨_, _, rfl, .inr q1, fun p hp => k _ _ p w.symm r2 hp⟩
  · obtain ⟨l, e2, w⟩ := Option.bind_eq_some_iff.mp w
    split at w
    · rename_i hs
      simp only [Bool.and_eq_true, decide_eq_true_eq] at hs
      cases w
      obtain ⟨v, rfl, r1⟩ := rd.one
      obtain ⟨s1, s2, s3⟩ := sortOk_some hs.1
      obtain ⟨e2, e3⟩ := itemsL_some e2
      obtain ⟨p, ws, rfl, r2, ⟨q1, _⟩ | ⟨q1, q2⟩⟩ := r1.seq hK e2
      · obtain ⟨its, ri, pl, hz⟩ := I.list q1
        rw [Vals.ref1 rv]
        obtain ⟨e1, e2⟩ := each_of hK I s1 r2 ri
        refine PySem.W.sorted_data pl.isList e1 e2 s2 s3 (by rw [← line_eq]; exact hs.2) (fun c hc => by have h3 := (canLay_dep 58 c (s1 c hc)).2; have h4 := hr.un; omega) fun out ho eo => ?_
        obtain ⟨ep, he'⟩ := PyProof.Rows.sortedAll_at s.heap its out.toArray
        obtain ⟨ys, y1, y2⟩ := each_back eo
        have hlen : ys.length ≤ sizeLine := by rw [← y2.length, List.length_mergeSort, ← line_eq]; exact hs.2
        exact ⟨.ref _, upd H (s.heap.objs.size + 1) (.lst ys), I.laid (t' := s.toks) (fun _ _ => PyProof.Rows.sortedAll_old) (Nat.le_succ _) ⟨hlen, out, ep, y1, he'⟩, rfl, k _ _ _ rfl y2 (I.hok.fresh (Nat.le_succ _))⟩
      · exact absurd q2 e3
    · cases w
  · cases w
end

def nameB (f : Str) (ob : Ck → List Expr → Bool) (ck : Ck) (a : Expr) : Bool := match a with
  | .Call (.Name x _) es [] _ => x == f && globB ck x && ob ck es && !es.isEmpty
  | _ => false
theorem nameB_some {f : Str} {ob : Ck → List Expr → Bool} {ck : Ck} {a : Expr} (h : nameB f ob ck a = true) : ∃ p e es q, a = .Call (.Name f p) (e :: es) [] q ∧ globB ck f = true ∧ ob ck (e :: es) = true := by
  unfold nameB at h
  split at h
  · simp only [Bool.and_eq_true, beq_iff_eq, Bool.not_eq_true'] at h
    obtain ⟨⟨⟨rfl, h1⟩, h2⟩, h3⟩ := h
    rename_i es _
    cases es with
    | nil => simp at h3
    | cons e es => exact ⟨_, _, _, _, rfl, h1, h2⟩
  · cases h
/-- a built-in function or class by its name, with operands -/
theorem pe_bi {X : Cx} {G : Gx} {ck : Ck} {k : Nat} {Wx : WX} (C : Cok X G ck k Wx) {f : Str} {u : Value} {rd : List V → Hp → VK → Prop} {xs : List Xo} {p q : Pos} {e : Expr} {es : List Expr} (hu : (∃ id, u = .builtin id) ∨ ∃ id, u = .type id) (hc : CallR X u rd) (hv : bootBuiltins f = some u) (hg : globB ck f = true) (hm : G.mg f = none) (ho : okB xs ck (e :: es) = true) (n : needB xs (tbOf X G k)) :
    PE X (.Call (.Name f p) (e :: es) [] q) (fun σ H Qv => tG (RBs G) G Wx (semB xs) σ H fun vs H1 => rd vs H1 Qv) := by
  obtain ⟨g1, g2, g3⟩ := gl_of C hg
  have hst := okB_star ho
  simp only [List.all_cons, Bool.and_eq_true] at hst
  rcases hu with ⟨id, rfl⟩ | ⟨id, rfl⟩
  · exact pe_callB hc g1 (by rw [← C.hmg]; exact hm) hv (sndB xs C ho n) g3 g2 (star_cons hst.1 _) (stars_of hst.2)
  · exact pe_callTy hc g1 (by rw [← C.hmg]; exact hm) hv (sndB xs C ho n) g3 g2 (star_cons hst.1 _) (stars_of hst.2)
def Xp.bi (f : Bi) (xs : List Xo) : Xp where
  sem r h := (semB xs r h).bind fun ds h1 => ofO (onL (biE f) h1 ds) h1
  ok := nameB (biName f) (okB xs)
  need t := BtL t (biName f) ∧ needB xs t
  star _ a h := by obtain ⟨p, e, es, q, rfl, _⟩ := nameB_some h; rfl
  snd {X G ck k Wx a} C h n := by
    obtain ⟨p, e, es, q, rfl, hg, ho⟩ := nameB_some h
    refine PE.imp (pe_bi C (by cases f <;> first | exact .inl ⟨_, rfl⟩ | exact .inr ⟨_, rfl⟩) (bi_D C.gk C.hK C.calm f) (bi_boot f) hg n.1 ho n.2) fun σ H Qv ⟨r, hh, M, rl, re, k⟩ => ⟨r, hh, M, rl, re, one k fun d v h1 M1 H1 e1 r1 b1 k1 => ?_⟩
    cases q : onL (biE f) h1 d with
    | none => rw [q] at k1; exact k1.elim
    | some z => rw [q] at k1; exact ⟨d, h1, M1, z, r1, b1, q, k1⟩
theorem bnE_lst {f : Bn} {ds : List D} {z : D} (h : bnE f ds = some z) : ∃ l, z = .lst l := by
  unfold bnE at h
  split at h
  · obtain ⟨l, _, w⟩ := Option.map_eq_some_iff.mp h
    exact ⟨l, w.symm⟩
  · obtain ⟨l, _, w⟩ := Option.bind_eq_some_iff.mp h
    split at w
    · cases w; exact ⟨_, rfl⟩
    · cases w
  · cases h
def Xn.bi (f : Bn) (xs : List Xo) : Xn where
  sem r h := (semB xs r h).bind fun ds h1 => ofO (onL (bnE f) h1 ds) h1
  ok := nameB (bnName f) (okB xs)
  need t := BtL t (bnName f) ∧ needB xs t
  star _ a h := by obtain ⟨p, e, es, q, rfl, _⟩ := nameB_some h; rfl
  snd {X G ck k Wx a} C h n := by
    obtain ⟨p, e, es, q, rfl, hg, ho⟩ := nameB_some h
    refine PE.imp (pe_bi C (by cases f <;> first | exact .inl ⟨_, rfl⟩ | exact .inr ⟨_, rfl⟩) (bn_D C.hK C.room f) (bn_boot f) hg n.1 ho n.2) fun σ H Qv ⟨r, hh, M, rl, re, k⟩ => ⟨r, hh, M, rl, re, one k fun d v h1 M1 H1 e1 r1 b1 k1 => ?_⟩
    cases q : onL (bnE f) h1 d with
    | none => rw [q] at k1; exact k1.elim
    | some z =>
      rw [q] at k1
      refine ⟨d, h1, M1, z, r1, b1, q, fun xs us p hz hv hp => ?_⟩
      subst hz
      exact kn_list C.gk e1 r1 hv k1 p hp

/-! ### isinstance of the plain kinds -/
inductive Kd where
  | int | bool | tuple | str
  deriving DecidableEq
def kdName : Kd → String
  | .int => "int" | .bool => "bool" | .tuple => "tuple" | .str => "str"
theorem kd_boot (c : Kd) : bootBuiltins (kdName c) = some (.type (kdName c)) := by
  cases c
  · exact bt_int
  · exact bt_bool
  · exact bt_tuple
  · exact bt_str
def tyD : D → Option String
  | .non => some "NoneType" | .bl _ => some "bool" | .int _ => some "int" | .str _ => some "str" | .tup _ => some "tuple" | .lst _ => some "list"
  | _ => none
theorem tyD_ok {X : Cx} {G : Gx} (hK : G.K = X.K) {M : Mp} {H : Hp} {d : D} {v : V} {t : String} (e : tyD d = some t) (r : Vd G M H d v) : TyX X.K H v (.type t) := by
  cases d <;> simp only [tyD, reduceCtorEq, Option.some.injEq] at e <;> subst e
  · cases r.rv trivial; exact .base .non
  · cases r.rv trivial; exact .base (.bl _)
  · cases r.rv trivial; exact .base (.int _)
  · cases r.rv trivial; exact .base (.str _)
  · cases r.rv trivial with
    | tup h r =>
      rcases h with ⟨_, h⟩ | ⟨o, its, n, h, c, _⟩
      · exact .base (.tup h)
      · exact .kTuple (by rw [← hK]; exact h) c
  · obtain ⟨p, vs, rfl, h1, r1⟩ := r.lst
    exact .base (.lst h1)
def isE (c : Kd) (d : D) : Option Bool := match c, d with
  | .int, .int _ => some true | .int, .bl _ => some true | .int, .non => some false | .int, .str _ => some false | .int, .tup _ => some false | .int, .lst _ => some false
  | .bool, .bl _ => some true | .bool, .int _ => some false | .bool, .non => some false | .bool, .str _ => some false | .bool, .tup _ => some false | .bool, .lst _ => some false
  | .tuple, .tup _ => some true | .tuple, .int _ => some false | .tuple, .bl _ => some false | .tuple, .non => some false | .tuple, .str _ => some false | .tuple, .lst _ => some false
  | .str, .str _ => some true | .str, .int _ => some false | .str, .bl _ => some false | .str, .non => some false | .str, .tup _ => some false | .str, .lst _ => some false
  | _, _ => none
theorem isE_kit {c : Kd} {d : D} {b : Bool} (h : isE c d = some b) : ∃ t, tyD d = some t ∧ kitB t (kdName c) = some b := by
  cases c <;> cases d <;> simp only [isE, reduceCtorEq, Option.some.injEq] at h <;> subst h <;> exact ⟨_, rfl, by decide +kernel⟩
def isiB (c : Kd) (x : Ck → Expr → Bool) (ck : Ck) (a : Expr) : Bool := match a with
  | .Call (.Name f _) [y, .Name t _] [] _ => f == ("isinstance" : Str) && globB ck f && x ck y && t == (kdName c : Str) && globB ck t
  | _ => false
theorem isiB_some {c : Kd} {x : Ck → Expr → Bool} {ck : Ck} {a : Expr} (h : isiB c x ck a = true) : ∃ p y q s, a = .Call (.Name "isinstance" p) [y, .Name (kdName c : Str) q] [] s ∧ globB ck "isinstance" = true ∧ x ck y = true ∧ globB ck (kdName c : Str) = true := by
  unfold isiB at h
  split at h
  · simp only [Bool.and_eq_true, beq_iff_eq] at h
    obtain ⟨⟨⟨⟨rfl, h1⟩, h2⟩, rfl⟩, h3⟩ := h
    exact ⟨_, _, _, _, rfl, h1, h2, h3⟩
  · cases h
def Xp.isi (c : Kd) (x : Xo) : Xp where
  sem r h := (x.sem r h).bind fun d h1 => ofB (on1 (isE c) h1 d) h1
  ok := isiB c x.ok
  need t := BtL t "isinstance" ∧ BtL t (kdName c : Str) ∧ x.need t
  star _ a h := by obtain ⟨p, y, q, s, rfl, _⟩ := isiB_some h; rfl
  snd {X G ck k Wx a} C h n := by
    obtain ⟨p, y, q, s, rfl, hg, hx, hgT⟩ := isiB_some h
    obtain ⟨g1, g2, g3⟩ := gl_of C hg
    obtain ⟨t1, t2, t3⟩ := gl_of C hgT
    have hst := x.star _ _ hx
    refine ⟨fun pins s σ H Qv I ⟨r, hh, M, rl, re, k⟩ => ?_⟩
    refine wpAny_Call_Name_kw (ld_blt I g1 (by rw [← C.hmg]; exact n.1) bt_isi ?_ g3 g2)
    have hb : PE X (.Name (kdName c : Str) q) (tC (.ty (kdName c))) := pe_bltn t1 (by rw [← C.hmg]; exact n.2.1) (kd_boot c) rfl t3 t2
    have hA : PA X [y, .Name (kdName c : Str) q] (tCons (tG (RB G) G Wx x.sem) (tCons (tC (.ty (kdName c))) tNil)) := pa_cons (x.snd C hx n.2.2) (pa_cons hb pa_nil) (star_cons hst _)
    refine PyProof.Rows.callWith_builtin1 (thn (hA.run _ pins s σ H (fun vs H1 => ∃ v d h1 M1, vs = [v, .ty (kdName c)] ∧ Ext M H M1 H1 ∧ RL G h1 M1 H1 ∧ RB G M1 H1 d v ∧ KG (RV G) G Wx σ M1 H1 Qv (ofB (on1 (isE c) h1 d) h1)) I ?_) fun us s1 ⟨vs, H1, I1, r1, v, d, h1, M1, ev, e1, rl1, rb, k1⟩ => ?_) (star_cons hst _) rfl
    · exact ⟨r, hh, M, rl, re, one k fun d v h1 M1 H1 e1 r1 b1 k1 => ⟨v, d, h1, M1, rfl, e1, r1, b1, k1⟩⟩
    · subst ev
      unfold ofB on1 at k1
      cases e2 : vw h1 d with
      | none => rw [e2] at k1; exact k1.elim
      | some d' =>
        rw [e2] at k1
        simp only [Option.bind_some] at k1
        cases e3 : isE c d' with
        | none => rw [e3] at k1; exact k1.elim
        | some b =>
          rw [e3] at k1
          obtain ⟨t, e4, e5⟩ := isE_kit e3
          exact call_isi pins s1 σ H1 _ us Qv I1 r1 ⟨_, _, _, _, _, rfl, .ty (kdName c), tyD_ok C.hK e4 (vw_ok rl1 rb e2), kit_ty e5, k1.here rl1 (.bl _)⟩
end Pf

set_option Elab.async false
set_option linter.all false
set_option maxRecDepth 100000
/-! ## Targets, what is walked, comprehensions -/
namespace Pf
open PySem L2
inductive Tg where
  | n (i : Nat)
  | tu (ts : List Tg)
mutual
def Tg.put : Tg → D → Rho → Option Rho
  | .n i, d, r => some (r.set i (.pl d))
  | .tu ts, d, r => match d with
    | .tup l => if l.length = ts.length then Tg.puts ts l r else none
    | _ => none
def Tg.puts : List Tg → List D → Rho → Option Rho
  | [], ds, r => match ds with
    | [] => some r
    | _ => none
  | t :: ts, ds, r => match ds with
    | d :: l => (Tg.put t d r).bind fun r' => Tg.puts ts l r'
    | [] => none
end
mutual
def Tg.sl : Tg → List Nat
  | .n i => [i]
  | .tu ts => Tg.sls ts
def Tg.sls : List Tg → List Nat
  | [] => []
  | t :: ts => Tg.sl t ++ Tg.sls ts
end
mutual
def Tg.ok (ck : Ck) : Tg → Expr → Bool
  | .n i, e => match e with
    | .Name x _ => atB ck i x && stB ck x
    | _ => false
  | .tu ts, e => match e with
    | .Tuple es _ _ => Tg.oks ck ts es
    | _ => false
def Tg.oks (ck : Ck) : List Tg → List Expr → Bool
  | [], es => es.isEmpty
  | t :: ts, es => match es with
    | e :: r => Tg.ok ck t e && Tg.oks ck ts r
    | [] => false
end
def SetIn (ns : List Nat) (σ σ' : St) : Prop := σ'.length = σ.length ∧ ∀ i, i ∉ ns → σ'[i]? = σ[i]?
def gT (G : Gx) (t : Tg) : TG := fun v σ H Qs => ∃ d r h M r', RL G h M H ∧ RE G M H r σ ∧ RV G M H d v ∧ Tg.put t d r = some r' ∧ ∀ σ', RE G M H r' σ' → SetIn (Tg.sl t) σ σ' → Qs σ' H
def gTs (G : Gx) (ts : List Tg) : TGs := fun vs σ H Qs => ∃ ds r h M r', RL G h M H ∧ RE G M H r σ ∧ RVs G M H ds vs ∧ Tg.puts ts ds r = some r' ∧ ∀ σ', RE G M H r' σ' → SetIn (Tg.sls ts) σ σ' → Qs σ' H
section
variable {X : Cx} {G : Gx} {ck : Ck} {k : Nat} {Wx : WX} {a : Expr} {es : List Expr}
theorem st_of (C : Cok X G ck k Wx) {y : Str} (h : stB ck y = true) : L2.Loc X.env.scope y ∧ (X.fn y = true ∨ X.env.scope.names.lookup y = some .local) := by
  unfold L2.Loc; rw [C.hsc]
  unfold stB at h
  split at h
  · exact ⟨.inl (by assumption), .inr (by assumption)⟩
  · exact ⟨.inr (by assumption), .inl (C.fn (by simpa using h) y)⟩
  · cases h
theorem eachT : ∀ {ts : List Tg} {es : List Expr} {env : Env}, Tg.oks ck ts es = true → (assignEach es env).length = ts.length ∧ (assignEach es env).findIdx? (·.1) = none
  | [], es, env, h => by
    cases es with
    | nil => exact ⟨rfl, rfl⟩
    | cons a b => simp [Tg.oks] at h
  | t :: ts, es, env, h => by
    cases es with
    | nil => simp [Tg.oks] at h
    | cons a b =>
      unfold Tg.oks at h
      simp only [Bool.and_eq_true] at h
      obtain ⟨i1, i2⟩ := eachT (env := env) h.2
      have e : assignEach (a :: b) env = (false, assign a env) :: assignEach b env := by
        cases t <;> cases a <;> first | rfl | (simp [Tg.ok] at h)
      rw [e]
      exact ⟨by simp [i1], by simp [List.findIdx?_cons, i2]⟩
theorem consT {t : Tg} (h : Tg.ok ck t a = true) {env : Env} : (assignEach (a :: es) env).map (·.2) = assign a env :: (assignEach es env).map (·.2) := by
  cases t <;> cases a <;> first | rfl | (simp [Tg.ok] at h)
mutual
theorem sg_T (C : Cok X G ck k Wx) : ∀ (t : Tg) {a : Expr}, Tg.ok ck t a = true → PG X a (gT G t)
  | .n i, a, h => by
    cases a <;> unfold Tg.ok at h <;> simp only [Bool.false_eq_true] at h
    simp only [Bool.and_eq_true, atB, decide_eq_true_eq] at h
    obtain ⟨s1, s2⟩ := st_of C h.2
    have hg := pg_name (pos := by assumption) C.nd (by rw [C.hN]; exact h.1) s1 s2
    refine ⟨fun pins s σ H v u Qs I ru ⟨d, r, hh, M, r', rl, re, rv, w, kq⟩ => hg.run pins s σ H v u Qs I ru ?_⟩
    simp only [Tg.put, Option.some.injEq] at w
    subst w
    exact kq _ (re.set rv) ⟨by simp, fun j hj => List.getElem?_set_ne (fun z => hj (by simp [Tg.sl, z]))⟩
  | .tu ts, a, h => by
    cases a <;> unfold Tg.ok at h <;> simp only [Bool.false_eq_true] at h
    have hg := sg_Ts C ts h
    have e := eachT (env := X.env) h
    have hg' := pg_tup (pos := by assumption) (k := by assumption) C.calm hg e.1 e.2
    refine ⟨fun pins s σ H v u Qs I ru ⟨d, r, hh, M, r', rl, re, rv, w, kq⟩ => hg'.run pins s σ H v u Qs I ru ?_⟩
    unfold Tg.put at w
    split at w
    · split at w
      · rename_i hl
        cases rv with
        | tup h1 r1 =>
          refine ⟨_, _, rfl, h1.sq C.hK, ?_, _, r, hh, M, r', rl, re, r1, w, fun σ' a b => kq σ' a (by unfold Tg.sl; exact b)⟩
          rw [← r1.length]
          exact hl
      · cases w
    · cases w
theorem sg_Ts (C : Cok X G ck k Wx) : ∀ (ts : List Tg) {es : List Expr}, Tg.oks ck ts es = true → PGs X es (gTs G ts)
  | [], es, h => by
    cases es with
    | cons a b => simp [Tg.oks] at h
    | nil =>
      refine ⟨fun pins s σ H vs us Qs I ru ⟨ds, r, hh, M, r', rl, re, rv, w, kq⟩ => pgs_nil.run pins s σ H vs us Qs I ru ?_⟩
      unfold Tg.puts at w
      split at w
      · cases w
        cases rv
        exact ⟨rfl, kq _ re ⟨rfl, fun _ _ => rfl⟩⟩
      · cases w
  | t :: ts, es, h => by
    cases es with
    | nil => simp [Tg.oks] at h
    | cons a b =>
      unfold Tg.oks at h
      simp only [Bool.and_eq_true] at h
      have h1 := sg_T C t h.1
      have h2 := sg_Ts C ts h.2
      have hg := pgs_cons h1 h2 (consT h.1)
      refine ⟨fun pins s σ H vs us Qs I ru ⟨ds, r, hh, M, r', rl, re, rv, w, kq⟩ => hg.run pins s σ H vs us Qs I ru ?_⟩
      unfold Tg.puts at w
      split at w
      · obtain ⟨r2, w1, w2⟩ := Option.bind_eq_some_iff.mp w
        cases rv with
        | cons r1 rr =>
          refine ⟨_, _, rfl, _, r, hh, M, r2, rl, re, r1, w1, fun σ' re' si => ?_⟩
          exact ⟨_, r2, hh, M, r', rl, re', rr, w2, fun σ2 re2 si2 => kq σ2 re2 ⟨si2.1.trans si.1, fun i hi => by
            simp only [Tg.sls, List.mem_append, not_or] at hi
            exact (si2.2 i hi.2).trans (si.2 i hi.1)⟩⟩
      · cases w
end
end
/-! ### what is walked -/
def ItOk (G : Gx) (M : Mp) (H : Hp) (xs : List D) (J : It) : Prop := ∀ h2 M2 H2, Keep M H M2 H2 → RL G h2 M2 H2 →
  (∀ i, i < xs.length → J.go i H2 ∧ ∀ x H3, J.yld i H2 x H3 → ∃ d M3, xs[i]? = some d ∧ Ext M2 H2 M3 H3 ∧ RL G h2 M3 H3 ∧ RV G M3 H3 d x) ∧ ∀ i, xs.length = i → J.stop i H2
def KI (G : Gx) (Wx : WX) (σ : St) (M : Mp) (H : Hp) (R : It → Hp → Prop) : Res (List D) → Prop
  | .ok xs h' => ∀ J M' H', Ext M H M' H' → RL G h' M' H' → ItOk G M' H' xs J → R J H'
  | .exc c fs h' => ∀ cls dx M' H', Ext M H M' H' → RL G h' M' H' → RX G M' H' c fs cls dx → Wx cls dx σ H'
  | .no => False
def tI (G : Gx) (Wx : WX) (sem : Rho → Hh → Res (List D)) : TI := fun σ H R => ∃ r h M, RL G h M H ∧ RE G M H r σ ∧ KI G Wx σ M H R (sem r h)
structure Ib where
  sem : Rho → Hh → Res (List D)
  ok : Ck → Expr → Bool
  need : Tb → Prop
  tgt : Expr → Bool
  set : ∀ ck a, ok ck a = true → notSet a = true
  snd : ∀ {X : Cx} {G : Gx} {ck : Ck} {k : Nat} {Wx : WX} {tg a : Expr}, Cok X G ck k Wx → tgt tg = true → ok ck a = true → need (tbOf X G k) → PI X tg a (tI G Wx sem)
theorem oneI {α' β' : Type} {Rel' : Mp → Hp → α' → β' → Prop} {G : Gx} {Wx : WX} {σ : St} {M : Mp} {H : Hp} {R : It → Hp → Prop} {m : Res α'} {f : α' → Hh → Res (List D)} {Q : β' → Hp → Prop} (k : KI G Wx σ M H R (m.bind f))
    (c : ∀ a b h1 M1 H1, Ext M H M1 H1 → RL G h1 M1 H1 → Rel' M1 H1 a b → KI G Wx σ M1 H1 R (f a h1) → Q b H1) : KG Rel' G Wx σ M H Q m := by
  cases m with
  | ok d h' =>
    refine fun v M2 H2 e2 r2 q => c d v h' M2 H2 e2 r2 q ?_
    simp only [bind_ok] at k
    cases e : f d h' with
    | no => rw [e] at k; exact k
    | ok xs h2 => rw [e] at k; exact fun J M3 H3 e3 => k J M3 H3 (e2.trans e3)
    | exc x fs h2 => rw [e] at k; exact fun cls dx M3 H3 e3 => k cls dx M3 H3 (e2.trans e3)
  | exc x fs h' => exact k
  | no => exact k
section
variable {X : Cx} {G : Gx} {ck : Ck} {k : Nat} {Wx : WX} {tg : Expr} {σ : St} {H : Hp} {M : Mp} {h : Hh}
theorem it_tup (gk : Gk G) (hK : G.K = X.K) {p : Addr} {l : List D} {vs : List V} (x : TupAt G M.F H p vs) (rv : RVs G M H l vs) : ItOk G M H l (Itt X.K p) := by
  intro h2 M2 H2 e r2
  have x2 := (x.keep e).sq hK
  have rv2 := rv.keep gk e
  refine ⟨fun i hi => ⟨⟨vs, vs[i]'(by rw [← rv.length]; exact hi), x2, by simp⟩, fun y H3 hy => ?_⟩, fun i hi => ⟨vs, x2, by rw [← rv.length]; exact Nat.le_of_eq hi⟩⟩
  obtain ⟨rfl, hy⟩ := hy
  obtain ⟨d, e1, r1⟩ := rv2.getV (hy vs x2)
  exact ⟨d, M2, e1, Ext.refl, r2, r1⟩
theorem it_lsq {p : Addr} {l : List D} (x : ∀ M2 H2, Keep M H M2 H2 → ∃ vs, SqL X.K H2 p vs ∧ RVs G M2 H2 l vs) : ItOk G M H l (Itl X.K p) := by
  intro h2 M2 H2 e r2
  obtain ⟨vs, x2, rv2⟩ := x M2 H2 e
  refine ⟨fun i hi => ⟨⟨vs, vs[i]'(by rw [← rv2.length]; exact hi), x2, by simp⟩, fun y H3 hy => ?_⟩, fun i hi => ⟨vs, x2, by rw [← rv2.length]; exact Nat.le_of_eq hi⟩⟩
  obtain ⟨rfl, hy⟩ := hy
  obtain ⟨d, e1, r1⟩ := rv2.getV (hy vs x2)
  exact ⟨d, M2, e1, Ext.refl, r2, r1⟩
theorem it_rng {lo : Int} {n : Nat} : ItOk G M H ((List.range n).map fun (k : Nat) => D.int (lo + (k : Int))) (Itr lo n) := by
  intro h2 M2 H2 e r2
  refine ⟨fun i hi => ?_, fun i hi => ?_⟩
  · simp only [List.length_map, List.length_range] at hi
    refine ⟨hi, fun y H3 hy => ?_⟩
    obtain ⟨rfl, rfl⟩ := hy
    exact ⟨.int (lo + i), M2, by simp [hi], Ext.refl, r2, .int _⟩
  · simp only [List.length_map, List.length_range] at hi
    exact Nat.le_of_eq hi
theorem iter_list {pins : List (Addr × Obj)} {s : Shared} {R : It → Hp → Prop} {p : Addr} {xs : List V} (I : Inv X pins σ H s) (hq : SqL X.K H p xs) (q : R (Itl X.K p) H) : wpAny (model X.prog X.w) X.A (pyIter (.ref p)) (PIE X pins σ tg R) X.xe s := by
  obtain ⟨its, rv, pl, hz⟩ := I.list hq
  refine wpAny_pyIter_list pl.isList ?_
  refine ⟨s.heap.objs.size, [s.heap.objs.size], _, _, H, rfl, I.kept (t' := s.toks) fun b o e => Heap.get?_push_of_some _ e, turn_list p _, ⟨_, Heap.get?_push_size _ rfl, rfl, rfl⟩, fun b hb => ?_, q⟩
  have e : b = s.heap.objs.size := by simpa using hb
  subst e
  exact I.fpOk (Nat.le_refl _) (I.hok.fresh (Nat.le_refl _))
theorem iter_tup {pins : List (Addr × Obj)} {s : Shared} {R : It → Hp → Prop} {p : Addr} {xs : List V} (I : Inv X pins σ H s) (hq : SqT X.K H p xs) (q : R (Itt X.K p) H) : wpAny (model X.prog X.w) X.A (pyIter (.ref p)) (PIE X pins σ tg R) X.xe s := by
  obtain ⟨its, rv, pl, hz⟩ := I.tuple hq
  refine wpAny_pyIter_tuple (show s.heap.IsTuple p its.toArray from pl) ?_
  refine ⟨s.heap.objs.size, [s.heap.objs.size], _, _, H, rfl, I.kept (t' := s.toks) fun b o e => Heap.get?_push_of_some _ e, turn_tuple p _, ⟨_, Heap.get?_push_size _ rfl, rfl, rfl⟩, fun b hb => ?_, q⟩
  have e : b = s.heap.objs.size := by simpa using hb
  subst e
  exact I.fpOk (Nat.le_refl _) (I.hok.fresh (Nat.le_refl _))
theorem it_frz (gk : Gk G) {p : Addr} {l : List D} (hf : M.F p) (ro : RO G M H p (.lst l)) : ItOk G M H l (Itl X.K p) := it_lsq fun M2 H2 e => by
  cases ro.keep gk e (e.k p hf).2 with
  | lst h r => exact ⟨_, SqL.of h, r⟩
end
/-- a tuple or a list that is written no more -/
def Ib.seq (x : Xp) : Ib where
  sem r h := (x.sem r h).bind fun d h1 => ofO (items d) h1
  ok ck a := x.ok ck a && notSet a
  need := x.need
  tgt _ := true
  set _ _ h := (Bool.and_eq_true_iff.mp h).2
  snd {X G ck k Wx tg a} C ht h n := by
    have h := (Bool.and_eq_true_iff.mp h).1
    refine ⟨fun pins s σ H R I ⟨r, hh, M, rl, re, k⟩ => ?_⟩
    refine thn ((x.snd C h n).run pins s σ H (fun v H1 => ∃ d h1 M1, Ext M H M1 H1 ∧ RL G h1 M1 H1 ∧ RV G M1 H1 d v ∧ KI G Wx σ M1 H1 R (ofO (items d) h1)) I ⟨r, hh, M, rl, re, oneI k fun d v h1 M1 H1 e1 r1 b1 k1 => ⟨d, h1, M1, e1, r1, b1, k1⟩⟩) fun v s1 ⟨y, H1, I1, ry, d, h1, M1, e1, r1, rv, k1⟩ => ?_
    cases rv <;> simp only [items, ofO_some, ofO_none] at k1 <;> first | exact k1.elim | cases ry
    · rename_i a1 r2 _
      exact iter_tup I1 (a1.sq C.hK) (k1 _ M1 H1 Ext.refl r1 (it_tup C.gk C.hK a1 r2))
    · rename_i a1 r2 _
      exact iter_list I1 (a1.sq C.hK) (k1 _ M1 H1 Ext.refl r1 (it_lsq fun M2 H2 e => ⟨_, (a1.keep e).sq C.hK, r2.keep C.gk e⟩))
    · rename_i hf ro _
      have ro' := ro
      cases ro with
      | lst h1 rr => exact iter_list I1 (SqL.of h1) (k1 _ M1 H1 Ext.refl r1 (it_frz C.gk hf ro'))
def rngOk (j : Int) : Bool := decide (-(2 ^ 62) ≤ j) && decide (j < 2 ^ 62)
theorem rngOk_some {j : Int} (h : rngOk j = true) : -(2 ^ 62) ≤ j ∧ j < 2 ^ 62 := by
  simp only [rngOk, Bool.and_eq_true, decide_eq_true_eq] at h
  exact h
def Ib.r1 (x : Xp) : Ib where
  sem r h := (x.sem r h).bind fun d h1 => match d with
    | .int j => if rngOk j then .ok ((List.range j.toNat).map fun (k : Nat) => D.int (k : Int)) h1 else .no
    | _ => .no
  ok ck a := match a with
    | .Call (.Name f _) [y] [] _ => f == ("range" : Str) && globB ck f && x.ok ck y
    | _ => false
  need t := BtL t "range" ∧ x.need t
  tgt _ := true
  set _ a h := by cases a <;> first | rfl | (simp at h)
  snd {X G ck k Wx tg a} C ht h n := by
    split at h
    · simp only [Bool.and_eq_true, beq_iff_eq] at h
      obtain ⟨⟨rfl, hg⟩, h2⟩ := h
      obtain ⟨g1, g2, g3⟩ := gl_of C hg
      have hs := x.star _ _ h2
      refine PI.imp (pi_range1 g1 (by rw [← C.hmg]; exact n.1) (pa_cons (x.snd C h2 n.2) pa_nil (star_cons hs _)) (star_cons hs _)) fun σ H R ⟨r, hh, M, rl, re, k⟩ => ⟨r, hh, M, rl, re, oneI k fun d v h1 M1 H1 e1 r1 b1 k1 => ?_⟩
      try dsimp only at k1
      split at k1
      · split at k1
        · rename_i j hj
          cases b1
          refine ⟨_, rfl, (rngOk_some hj).1, (rngOk_some hj).2, k1 _ M1 H1 Ext.refl r1 ?_⟩
          have := it_rng (G := G) (M := M1) (H := H1) (lo := 0) (n := j.toNat)
          simpa using this
        · exact k1.elim
      · exact k1.elim
    · cases h
def Ib.r2 (x y : Xp) : Ib where
  sem r h := (x.sem r h).bind fun d h1 => (y.sem r h1).bind fun e h2 => match d, e with
    | .int i, .int j => if rngOk i && rngOk j then .ok ((List.range (j - i).toNat).map fun (k : Nat) => D.int (i + (k : Int))) h2 else .no
    | _, _ => .no
  ok ck a := match a with
    | .Call (.Name f _) [u, v] [] _ => f == ("range" : Str) && globB ck f && x.ok ck u && y.ok ck v
    | _ => false
  need t := BtL t "range" ∧ x.need t ∧ y.need t
  tgt _ := true
  set _ a h := by cases a <;> first | rfl | (simp at h)
  snd {X G ck k Wx tg a} C ht h n := by
    split at h
    · simp only [Bool.and_eq_true, beq_iff_eq] at h
      obtain ⟨⟨⟨rfl, hg⟩, h2⟩, h3⟩ := h
      obtain ⟨g1, g2, g3⟩ := gl_of C hg
      have hs := x.star _ _ h2
      have hs2 := y.star _ _ h3
      refine PI.imp (pi_range2 g1 (by rw [← C.hmg]; exact n.1) (pa_cons (x.snd C h2 n.2.1) (pa_cons (y.snd C h3 n.2.2) pa_nil (star_cons hs2 _)) (star_cons hs _)) (by rw [star_cons hs, star_cons hs2]; rfl) (star_cons hs2 _)) fun σ H R ⟨r, hh, M, rl, re, k⟩ => ⟨r, hh, M, rl, re, oneI k fun d v h1 M1 H1 e1 r1 b1 k1 => ⟨r, h1, M1, r1, re.ext C.gk rl e1, oneI k1 fun e u h2 M2 H2 e2 r2 b2 k2 => ?_⟩⟩
      try dsimp only at k2
      split at k2
      · split at k2
        · rename_i i j hj
          simp only [Bool.and_eq_true] at hj
          cases b1; cases b2
          exact ⟨_, _, rfl, ⟨(rngOk_some hj.1).1, (rngOk_some hj.1).2, (rngOk_some hj.2).1, (rngOk_some hj.2).2⟩, k2 _ M2 H2 Ext.refl r2 it_rng⟩
        · exact k2.elim
      · exact k2.elim
    · cases h
end Pf

set_option Elab.async false
set_option linter.all false
set_option maxRecDepth 100000
/-! ## Comprehensions -/
namespace Pf
open PySem L2
def noX {α : Type} : Res α → Res α
  | .ok a h => .ok a h
  | _ => .no
@[simp] theorem noX_ok {α : Type} {a : α} {h : Hh} : noX (Res.ok a h) = .ok a h := rfl
def semT : Option Xt → Rho → Hh → Res Bool
  | none, _, h => .ok true h
  | some t, r, h => t.sem r h
def okT : Option Xt → Ck → List Expr → Bool
  | none, _, es => es.isEmpty
  | some t, ck, es => match es with
    | [e] => t.ok ck e
    | _ => false
def needT : Option Xt → Tb → Prop
  | none, _ => True
  | some t, b => t.need b
abbrev W0 : WX := fun _ _ _ _ => False
theorem sndT (o : Option Xt) {X : Cx} {G : Gx} {ck : Ck} {k : Nat} {Wx : WX} {es : List Expr} (C : Cok X G ck k Wx) (h : okT o ck es = true) (n : needT o (tbOf X G k)) : PTs X es (tG (fun _ _ (b c : Bool) => b = c) G Wx (semT o)) := by
  cases o with
  | none =>
    cases es with
    | cons a b => simp [okT] at h
    | nil => exact PTs.imp pts_nil fun σ H Qv ⟨r, h, M, rl, re, k⟩ => k _ M H Ext.refl rl rfl
  | some t =>
    simp only [okT] at h
    split at h
    · exact pts_one (t.snd C h n)
    · cases h
theorem Cok.blk {X : Cx} {G : Gx} {ck : Ck} {k : Nat} {Wx : WX} (C : Cok X G ck k Wx) {s : Shared} {H : Hp} {scope : Scope} {Cc : Addr} {cl : List (Str × Addr)} {fp : List Addr} : Cok (X.blk s H scope (compEnvC scope cl Cc X.env) fp) G ⟨ck.N, relS scope ck.sc, true⟩ k W0 where
  hK := C.hK
  hmg := C.hmg
  hN := C.hN
  hsc := by rw [← C.hsc]; rfl
  calm := C.calm
  nd := C.nd
  room := C.room
  tk := fun u s' ⟨_, _, _, _, _, _, _, _, _, _, _, _, _, _, _, _, h⟩ => h
  own := PassesOwn.never
  fn := fun h => nomatch h
  gk := C.gk
theorem wipe_get (σ : St) (i : Nat) : ∀ vs : List Nat, (wipe σ vs)[i]? = if i ∈ vs ∧ i < σ.length then some none else σ[i]?
  | [] => by simp [wipe]
  | v :: vs => by
    unfold wipe
    by_cases h : v = i
    · subst h
      by_cases hl : v < σ.length
      · rw [List.getElem?_set_self (by rw [wipe_length]; exact hl)]; simp [hl]
      · rw [List.getElem?_eq_none (by simpa [wipe_length] using hl)]
        simp [hl]
    · rw [List.getElem?_set_ne h, wipe_get σ i vs]
      simp [Ne.symm h]
theorem wipe_same {σ σ2 : St} {vs ns : List Nat} (h : SetIn ns (wipe σ vs) σ2) (hn : ∀ i ∈ ns, i ∈ vs) : wipe σ2 vs = wipe σ vs := by
  have hl : σ2.length = σ.length := h.1.trans (wipe_length _ _)
  refine List.ext_getElem? fun i => ?_
  rw [wipe_get, wipe_get]
  by_cases hi : i ∈ vs ∧ i < σ.length
  · rw [if_pos hi, if_pos (by rw [hl]; exact hi)]
  · rw [if_neg hi, if_neg (by rw [hl]; exact hi)]
    by_cases hv : i ∈ vs
    · have : ¬ i < σ.length := fun z => hi ⟨hv, z⟩
      rw [List.getElem?_eq_none (by rw [hl]; omega), List.getElem?_eq_none (by omega)]
    · rw [h.2 i (fun z => hv (hn i z)), wipe_get, if_neg (fun z => hv z.1)]
def wipeR : Rho → List Nat → Rho
  | r, [] => r
  | r, i :: l => (wipeR r l).set i .un
theorem wipeR_len (r : Rho) : ∀ l, (wipeR r l).length = r.length
  | [] => rfl
  | i :: l => by simp [wipeR, wipeR_len r l]
theorem wipeR_get {r : Rho} {s : Sl} {i : Nat} (hs : s ≠ .un) : ∀ {l : List Nat}, (wipeR r l)[i]? = some s → i ∉ l ∧ r[i]? = some s
  | [], h => ⟨by simp, h⟩
  | j :: l, h => by
    unfold wipeR at h
    by_cases z : j = i
    · subst z
      by_cases hi : j < (wipeR r l).length
      · rw [List.getElem?_set_self hi] at h; cases h; exact absurd rfl hs
      · rw [List.getElem?_eq_none (by simpa using hi)] at h; cases h
    · rw [List.getElem?_set_ne z] at h
      obtain ⟨h1, h2⟩ := wipeR_get hs h
      exact ⟨by simp [Ne.symm z, h1], h2⟩
theorem RE.wipe {G : Gx} {M : Mp} {H : Hp} {r : Rho} {σ : St} (x : RE G M H r σ) (l : List Nat) : RE G M H (wipeR r l) (L2.wipe σ l) := by
  have hg : ∀ {i : Nat} {o : Option V}, i ∉ l → σ[i]? = some o → (L2.wipe σ l)[i]? = some o := fun {i o} hn h => by rw [wipe_get, if_neg (fun z => hn z.1)]; exact h
  have hb : ∀ {i : Nat} {o : Option V}, i ∉ l → (L2.wipe σ l)[i]? = some o → σ[i]? = some o := fun {i o} hn h => by rw [wipe_get, if_neg (fun z => hn z.1)] at h; exact h
  refine ⟨by rw [wipeR_len, x.len, wipe_length], fun i d q => ?_, fun i d q => ?_, fun i j d e a q1 q2 s1 s2 => ?_⟩
  · obtain ⟨h1, h2⟩ := wipeR_get (by simp) q
    obtain ⟨v, h3, h4⟩ := x.pl i d h2
    exact ⟨v, hg h1 h3, h4⟩
  · obtain ⟨h1, h2⟩ := wipeR_get (by simp) q
    obtain ⟨v, h3, h4⟩ := x.ow i d h2
    exact ⟨v, hg h1 h3, h4⟩
  · obtain ⟨h1, h2⟩ := wipeR_get (by simp) q1
    obtain ⟨h3, h4⟩ := wipeR_get (by simp) q2
    exact x.one i j d e a h2 h4 (hb h1 s1) (hb h3 s2)
/-- the turns of a comprehension -/
def lcGo (t : Tg) (b : Rho → Hh → Res Bool) (e : Rho → Hh → Res D) (r : Rho) : List D → Hh → Res (List D)
  | [], h => .ok [] h
  | x :: xs, h => match t.put x r with
    | none => .no
    | some r2 => (noX (b r2 h)).bind fun c h1 => if c then (noX (e r2 h1)).bind fun d h2 => (lcGo t b e r xs h2).bind fun ds h3 => .ok (d :: ds) h3 else lcGo t b e r xs h1
def lcB (e : Xp) (t : Tg) (it : Ib) (ifs : Option Xt) (own : List (Str × Nat)) (ck : Ck) (a : Expr) : Bool := match a with
  | .ListComp x [⟨tg, iter, cs, 0⟩] scope _ => blkC ck.N ck.sc scope own && (Tg.sl t).all (fun i => decide (i ∈ own.map (·.2))) && it.ok ck iter && Tg.ok ⟨ck.N, relS scope ck.sc, true⟩ t tg && okT ifs ⟨ck.N, relS scope ck.sc, true⟩ cs && e.ok ⟨ck.N, relS scope ck.sc, true⟩ x && it.tgt tg
  | _ => false
theorem kn_up {G : Gx} {h : Hh} {M1 M' : Mp} {H1 H' : Hp} {Dd : Addr} {o : HO} (gk : Gk G) (e : Ext M1 H1 M' H') (hD : H1 Dd = none) : Ext M1 H1 M' (upd H' Dd o) := ⟨fun b u hb nb yb => by rw [upd_ne (fun z => by subst z; rw [hD] at hb; cases hb)]; exact e.keep b u hb nb yb, fun b hb => by
  by_cases z : b = Dd
  · subst z; exact hD
  · rw [upd_ne z] at hb; exact e.trk b hb, e.fz, e.pre, e.newF⟩
theorem lcB_some {e : Xp} {t : Tg} {it : Ib} {ifs : Option Xt} {own : List (Str × Nat)} {ck : Ck} {a : Expr} (h : lcB e t it ifs own ck a = true) : ∃ x tg iter cs scope p, a = .ListComp x [⟨tg, iter, cs, 0⟩] scope p ∧ blkC ck.N ck.sc scope own = true ∧ (Tg.sl t).all (fun i => decide (i ∈ own.map (·.2))) = true ∧ it.ok ck iter = true ∧ Tg.ok ⟨ck.N, relS scope ck.sc, true⟩ t tg = true ∧ okT ifs ⟨ck.N, relS scope ck.sc, true⟩ cs = true ∧ e.ok ⟨ck.N, relS scope ck.sc, true⟩ x = true ∧ it.tgt tg = true := by
  unfold lcB at h
  split at h
  · simp only [Bool.and_eq_true] at h
    obtain ⟨⟨⟨⟨⟨⟨h1, h2⟩, h3⟩, h4⟩, h5⟩, h6⟩, h7⟩ := h
    exact ⟨_, _, _, _, _, _, rfl, h1, h2, h3, h4, h5, h6, h7⟩
  · cases h
def lcSem (e : Xp) (t : Tg) (it : Ib) (ifs : Option Xt) (own : List (Str × Nat)) (r : Rho) (h : Hh) : Res D := (it.sem r h).bind fun xs h1 => if xs.length ≤ line then (lcGo t (semT ifs) e.sem (wipeR r (own.map (·.2))) xs h1).bind fun ds h2 => .ok (.lst ds) h2 else .no
theorem lcSem_nd {e : Xp} {t : Tg} {it : Ib} {ifs : Option Xt} {own : List (Str × Nat)} {r : Rho} {h : Hh} : ∀ d h', lcSem e t it ifs own r h = .ok d h' → ∀ l, d ≠ .dct l := by
  intro d h' q l z
  subst z
  unfold lcSem at q
  cases q0 : it.sem r h with
  | no => rw [q0] at q; cases q
  | exc c fs hx => rw [q0] at q; cases q
  | ok xs hx =>
    rw [q0] at q
    simp only [bind_ok] at q
    split at q
    · cases q1 : lcGo t (semT ifs) e.sem (wipeR r (own.map (·.2))) xs hx <;> rw [q1] at q <;> cases q
    · cases q
theorem lc_read {X : Cx} {G : Gx} {ck : Ck} {k : Nat} {Wx : WX} (C : Cok X G ck k Wx) {e : Xp} {t : Tg} {it : Ib} {ifs : Option Xt} {own : List (Str × Nat)} (h2 : (Tg.sl t).all (fun i => decide (i ∈ own.map (·.2))) = true) : ∀ σ H Qv, tN G Wx (lcSem e t it ifs own) σ H Qv → tLc (tI G Wx it.sem) (gT G t) (tG (fun _ _ (b c : Bool) => b = c) G W0 (semT ifs)) (tG (RV G) G W0 e.sem) (own.map (·.2)) σ H Qv := by
  intro σ H Qv ⟨r, hh, M, rl, re, k⟩
  refine ⟨r, hh, M, rl, re, ?_⟩
  unfold lcSem at k
  cases q0 : it.sem r hh with
  | no => rw [q0] at k; exact k
  | exc c fs h' => rw [q0] at k; exact k
  | ok xs hx =>
    rw [q0] at k
    simp only [bind_ok] at k
    split at k
    · rename_i hl
      intro J M1 H1 e1 r1 ok Dd hD
      have k := k.back e1
      refine ⟨fun i m H' => m = xs.length - i ∧ i ≤ xs.length ∧ ∃ acc avs h' M', acc.length ≤ i ∧ Ext M1 H1 M' H' ∧ RL G h' M' H' ∧ H' Dd = some (.lst avs) ∧ Dd ∉ M'.bs ∧ ¬ M'.F Dd ∧ RVs G M' H' acc avs ∧
          KG (RN H G) G Wx σ M1 H1 Qv ((lcGo t (semT ifs) e.sem (wipeR r (own.map (·.2))) (xs.drop i) h').bind fun ds h2 => .ok (.lst (acc ++ ds)) h2),
        ⟨xs.length, by simp, Nat.zero_le _, [], [], hx, M1, by simp, Ext.loose hD, r1.poke C.gk (r1.free hD) (r1.freeF hD) (nt_none hD), upd_same, r1.free hD, r1.freeF hD, .nil, k⟩, ?_⟩
      rintro i m H' ⟨rfl, hi', acc, avs, h', M', ha, e2, r2, at2, n2, f2, ra, k2⟩
      have ok2 := ok h' M' H' (e2.kp r1) r2
      by_cases hlt : i < xs.length
      · refine .inr ⟨(ok2.1 i hlt).1, fun H4 => ∃ acc avs h4 M4, acc.length ≤ i + 1 ∧ Ext M1 H1 M4 H4 ∧ RL G h4 M4 H4 ∧ H4 Dd = some (.lst avs) ∧ Dd ∉ M4.bs ∧ ¬ M4.F Dd ∧ RVs G M4 H4 acc avs ∧
          KG (RN H G) G Wx σ M1 H1 Qv ((lcGo t (semT ifs) e.sem (wipeR r (own.map (·.2))) (xs.drop (i + 1)) h4).bind fun ds h2 => .ok (.lst (acc ++ ds)) h2), fun H4 q => ⟨xs.length - (i + 1), by omega, rfl, by omega, q⟩, fun y H3 hy => ?_⟩
        obtain ⟨d, M3, ed, e3, r3, rv3⟩ := (ok2.1 i hlt).2 y H3 hy
        have re3 := (((re.ext C.gk rl e1).ext C.gk r1 e2).ext C.gk r2 e3).wipe (own.map (·.2))
        have hdrop : xs.drop i = d :: xs.drop (i + 1) := by
          rw [List.drop_eq_getElem_cons hlt]
          rw [List.getElem?_eq_getElem hlt] at ed
          cases ed; rfl
        rw [hdrop, lcGo] at k2
        split at k2
        · exact k2.elim
        · rename_i r4 ep
          have lo : ∀ {M4 : Mp} {H4 : Hp}, Ext M' H' M4 H4 → H4 Dd = some (.lst avs) ∧ Dd ∉ M4.bs ∧ ¬ M4.F Dd := fun {M4 H4} e4 => ⟨e4.keep _ _ at2 n2 trivial, e4.off at2 n2, e4.offF r2 at2 trivial n2 f2⟩
          refine ⟨d, _, h', M3, r4, r3, re3, rv3, ep, fun σ' re' si => ⟨wipe_same si fun j hj => by simpa using List.all_eq_true.mp h2 j hj, ?_⟩⟩
          cases q1 : semT ifs r4 h' with
          | no => rw [q1] at k2; exact k2.elim
          | exc c fs hq => rw [q1] at k2; exact k2.elim
          | ok c h5 =>
            rw [q1] at k2
            simp only [noX_ok, bind_ok] at k2
            refine ⟨r4, h', M3, r3, re', ?_⟩
            rw [q1]
            rintro _ M4 H4 e4 rl4 rfl
            cases c with
            | false =>
              simp only [Bool.false_eq_true, if_false] at k2 ⊢
              obtain ⟨l1, l2, l3⟩ := lo (e3.trans e4)
              exact ⟨acc, avs, h5, M4, by omega, (e2.trans e3).trans e4, rl4, l1, l2, l3, (ra.ext C.gk r2 e3).ext C.gk r3 e4, k2⟩
            | true =>
              simp only [if_true] at k2 ⊢
              cases q2 : e.sem r4 h5 with
              | no => rw [q2] at k2; exact k2.elim
              | exc c fs hq => rw [q2] at k2; exact k2.elim
              | ok dz h6 =>
                rw [q2] at k2
                simp only [noX_ok, bind_ok] at k2
                refine ⟨r4, h5, M4, rl4, re'.ext C.gk r3 e4, ?_⟩
                rw [q2]
                intro z M6 H6 e6 r6 rz
                obtain ⟨l1, l2, l3⟩ := lo ((e3.trans e4).trans e6)
                have ra6 := ((ra.ext C.gk r2 e3).ext C.gk r3 e4).ext C.gk rl4 e6
                have hz : avs.length < sizeLine := by
                  rw [← ra6.length, ← line_eq]
                  omega
                refine ⟨avs, l1, hz, acc ++ [dz], avs ++ [z], h6, M6, by simp; omega, kn_up (h := h6) C.gk (((e2.trans e3).trans e4).trans e6) hD, r6.poke C.gk l2 l3 (nt_some l1 trivial), upd_same, l2, l3, (ra6.append (.cons rz .nil)).keep C.gk (Keep.poke l3), ?_⟩
                have ea : ∀ (m : Res (List D)), ((m.bind fun ds h3 => Res.ok (dz :: ds) h3).bind fun ds h2 => Res.ok (D.lst (acc ++ ds)) h2) = m.bind fun ds h2 => Res.ok (D.lst (acc ++ [dz] ++ ds)) h2 := by
                  intro m; cases m <;> simp
                rw [ea] at k2
                exact k2
      · have ei : xs.drop i = [] := List.drop_eq_nil_iff.mpr (by omega)
        rw [ei, lcGo] at k2
        simp only [bind_ok, List.append_nil] at k2
        exact .inl ⟨ok2.2 i (by omega), k2 _ M' H' e2 r2 ⟨Dd, rfl, .lst at2 ra, n2, f2, e1.trk _ hD⟩⟩
    · exact k.elim
/-- [e for t in it if b]; own: the names that are the comprehension's own -/
def Xn.lc (e : Xp) (t : Tg) (it : Ib) (ifs : Option Xt) (own : List (Str × Nat)) : Xn where
  sem := lcSem e t it ifs own
  ok := lcB e t it ifs own
  need b := e.need b ∧ it.need b ∧ needT ifs b
  star _ a h := by obtain ⟨_, _, _, _, _, _, rfl, _⟩ := lcB_some h; rfl
  snd {X G ck k Wx a} C h n := by
    obtain ⟨x, tg, iter, cs, scope, p, rfl, h1, h2, h3, h4, h5, h6, h7⟩ := lcB_some h
    exact PE.imp (pe_lc C.calm C.nd (it.snd C h7 h3 n.2.1) (blkOk_by (by rw [C.hN, C.hsc]; exact h1))
      (fun s H Cc cl fp => sg_T (C.blk (s := s) (H := H) (scope := scope) (Cc := Cc) (cl := cl) (fp := fp)) t h4)
      (fun s H Cc cl fp => sndT ifs (C.blk (s := s) (H := H) (scope := scope) (Cc := Cc) (cl := cl) (fp := fp)) h5 n.2.2)
      (fun s H Cc cl fp => e.snd (C.blk (s := s) (H := H) (scope := scope) (Cc := Cc) (cl := cl) (fp := fp)) h6 n.1) (by
        have h4 := it.set _ _ h3
        intro v
        cases iter <;> first | rfl | (simp [notSet] at h4))) (lc_read C h2)
end Pf

set_option Elab.async false
set_option linter.all false
set_option maxRecDepth 100000
/-! ## Statements -/
namespace Pf
open PySem L2
inductive Out where
  | nx (r : Rho) (h : Hh) | rt (d : D) (h : Hh) | bk (r : Rho) (h : Hh) | ct (r : Rho) (h : Hh) | exc (c : Nat) (fs : List (Nat × D)) (r : Rho) (h : Hh) | no
def Res.st {α : Type} (m : Res α) (r : Rho) (f : α → Hh → Out) : Out := match m with
  | .ok a h => f a h
  | .exc c fs h => .exc c fs r h
  | .no => .no
@[simp] theorem st_ok {α : Type} {a : α} {h : Hh} {r : Rho} {f : α → Hh → Out} : (Res.ok a h).st r f = f a h := rfl
@[simp] theorem st_exc {α : Type} {c : Nat} {fs : List (Nat × D)} {h : Hh} {r : Rho} {f : α → Hh → Out} : (Res.exc c fs h : Res α).st r f = .exc c fs r h := rfl
@[simp] theorem st_no {α : Type} {r : Rho} {f : α → Hh → Out} : (Res.no : Res α).st r f = .no := rfl
structure Sv (G : Gx) (M0 : Mp) (H0 : Hp) (r : Rho) (h : Hh) (M : Mp) (σ : St) (H : Hp) : Prop where
  ent : Ext M0 H0 M H
  rl : RL G h M H
  re : RE G M H r σ
  own : ∀ (i : Nat) (d : D) (a : Addr), r[i]? = some (Sl.ow d) → σ[i]? = some (some (V.ref a)) → H0 a = none
def KO (G : Gx) (Wx : WX) (M0 : Mp) (H0 : Hp) (M : Mp) (H : Hp) (Dn : Ends) : Out → Prop
  | .nx r' h' => ∀ σ' M' H', Keep M H M' H' → Sv G M0 H0 r' h' M' σ' H' → Dn.nx σ' H'
  | .rt d h' => ∀ v M' H', Ext M0 H0 M' H' → RL G h' M' H' → RV G M' H' d v → Dn.rt v H'
  | .bk r' h' => ∀ σ' M' H', Keep M H M' H' → Sv G M0 H0 r' h' M' σ' H' → Dn.bk σ' H'
  | .ct r' h' => ∀ σ' M' H', Keep M H M' H' → Sv G M0 H0 r' h' M' σ' H' → Dn.ct σ' H'
  | .exc c fs r' h' => ∀ cls dx σ' M' H', Keep M H M' H' → Sv G M0 H0 r' h' M' σ' H' → RX G M' H' c fs cls dx → Wx cls dx σ' H'
  | .no => False
theorem Keep.trans {M M1 M2 : Mp} {H H1 H2 : Hp} (a : Keep M H M1 H1) (b : Keep M1 H1 M2 H2) : Keep M H M2 H2 := ⟨fun x hx => ⟨(b.k x (a.k x hx).1).1, fun o q => (b.k x (a.k x hx).1).2 o ((a.k x hx).2 o q)⟩, fun i x q => b.b i x (a.b i x q)⟩
section
variable {G : Gx} {Wx : WX} {M0 M M1 : Mp} {H0 H H1 : Hp} {Dn : Ends} {r : Rho} {h h1 : Hh} {σ : St}
theorem KO.back {o : Out} (e : Keep M H M1 H1) (k : KO G Wx M0 H0 M H Dn o) : KO G Wx M0 H0 M1 H1 Dn o := by
  cases o with
  | nx r h => exact fun σ' M' H' q => k σ' M' H' (e.trans q)
  | rt d h => exact k
  | bk r h => exact fun σ' M' H' q => k σ' M' H' (e.trans q)
  | ct r h => exact fun σ' M' H' q => k σ' M' H' (e.trans q)
  | exc c fs r h => exact fun cls dx σ' M' H' q => k cls dx σ' M' H' (e.trans q)
  | no => exact k
theorem Sv.step (gk : Gk G) (s : Sv G M0 H0 r h M σ H) (e : Ext M H M1 H1) (rl : RL G h1 M1 H1) : Sv G M0 H0 r h1 M1 σ H1 := ⟨s.ent.trans e, rl, s.re.ext gk s.rl e, s.own⟩
theorem oneS (gk : Gk G) {α' β' : Type} {Rel' : Mp → Hp → α' → β' → Prop} {m : Res α'} {f : α' → Hh → Out} {R : β' → Hp → Prop} (s : Sv G M0 H0 r h M σ H) (k : KO G Wx M0 H0 M H Dn (m.st r f))
    (c : ∀ a b h1 M1 H1, Ext M H M1 H1 → Sv G M0 H0 r h1 M1 σ H1 → Rel' M1 H1 a b → KO G Wx M0 H0 M1 H1 Dn (f a h1) → R b H1) : KG Rel' G Wx σ M H R m := by
  cases m with
  | no => exact k
  | exc x fs h' => exact fun cls dx M' H' e rl rx => k cls dx σ M' H' (e.kp s.rl) (s.step gk e rl) rx
  | ok d h' => exact fun v M' H' e rl q => c d v h' M' H' e (s.step gk e rl) q (k.back (e.kp s.rl))
end
def tSm (G : Gx) (Wx : WX) (sem : Rho → Hh → Out) : TS := fun Dn σ H => ∃ M0 H0 r h M, Sv G M0 H0 r h M σ H ∧ KO G Wx M0 H0 M H Dn (sem r h)
structure Sm where
  sem : Rho → Hh → Out
  ok : Ck → Stmt → Bool
  need : Tb → Prop
  snd : ∀ {X : Cx} {G : Gx} {ck : Ck} {k : Nat} {Wx : WX} {a : Stmt}, Cok X G ck k Wx → ck.sc.kind = .function → ok ck a = true → need (tbOf X G k) → PS X a (tSm G Wx sem)
theorem PS.imp {X : Cx} {a : Stmt} {t t' : TS} (h : PS X a t) (i : ∀ Dn σ H, t' Dn σ H → t Dn σ H) : PS X a t' := ⟨fun pins s σ H Dn I q => h.run pins s σ H Dn I (i _ _ _ q)⟩
theorem PSs.imp {X : Cx} {a : List Stmt} {t t' : TS} (h : PSs X a t) (i : ∀ Dn σ H, t' Dn σ H → t Dn σ H) : PSs X a t' := ⟨fun pins s σ H Dn I q => h.run pins s σ H Dn I (i _ _ _ q)⟩

/-! ### blocks -/
inductive Si where
  | s (x : Sm)
  | frz (i : Nat)
  | kill (l : List Nat)
def frzR (i : Nat) (r : Rho) : Rho := match r[i]? with
  | some (.ow d) => r.set i (.pl d)
  | _ => r
def killR : List Nat → Rho → Rho
  | [], r => r
  | i :: l, r => killR l (r.set i .un)
def Out.then (o : Out) (f : Rho → Hh → Out) : Out := match o with
  | .nx r h => f r h
  | o => o
@[simp] theorem then_nx {r : Rho} {h : Hh} {f : Rho → Hh → Out} : (Out.nx r h).then f = f r h := rfl
@[simp] theorem then_rt {d : D} {h : Hh} {f : Rho → Hh → Out} : (Out.rt d h).then f = .rt d h := rfl
@[simp] theorem then_bk {r : Rho} {h : Hh} {f : Rho → Hh → Out} : (Out.bk r h).then f = .bk r h := rfl
@[simp] theorem then_ct {r : Rho} {h : Hh} {f : Rho → Hh → Out} : (Out.ct r h).then f = .ct r h := rfl
@[simp] theorem then_exc {c : Nat} {fs : List (Nat × D)} {r : Rho} {h : Hh} {f : Rho → Hh → Out} : (Out.exc c fs r h).then f = .exc c fs r h := rfl
@[simp] theorem then_no {f : Rho → Hh → Out} : (Out.no).then f = .no := rfl
def semSs : List Si → Rho → Hh → Out
  | [], r, h => .nx r h
  | .s x :: l, r, h => (x.sem r h).then (semSs l)
  | .frz i :: l, r, h => semSs l (frzR i r) h
  | .kill ks :: l, r, h => semSs l (killR ks r) h
def okSs : List Si → Ck → List Stmt → Bool
  | [], _, st => st.isEmpty
  | .s x :: l, ck, st => match st with
    | a :: b => x.ok ck a && okSs l ck b
    | [] => false
  | .frz _ :: l, ck, st => okSs l ck st
  | .kill _ :: l, ck, st => okSs l ck st
def needSs : List Si → Tb → Prop
  | [], _ => True
  | .s x :: l, t => x.need t ∧ needSs l t
  | .frz _ :: l, t => needSs l t
  | .kill _ :: l, t => needSs l t
section
variable {G : Gx} {M0 M : Mp} {H0 H : Hp} {r : Rho} {h : Hh} {σ : St}
theorem Sv.kill (s : Sv G M0 H0 r h M σ H) : ∀ (l : List Nat), Sv G M0 H0 (killR l r) h M σ H := by
  intro l
  induction l generalizing r with
  | nil => exact s
  | cons i l ih =>
    refine ih ⟨s.ent, s.rl, s.re.kill, fun j d a q1 q2 => ?_⟩
    by_cases z : i = j
    · subst z
      by_cases hi : i < r.length
      · rw [List.getElem?_set_self hi] at q1; cases q1
      · rw [List.getElem?_eq_none (by simpa using hi)] at q1; cases q1
    · rw [List.getElem?_set_ne z] at q1
      exact s.own j d a q1 q2
theorem Sv.frz (gk : Gk G) (s : Sv G M0 H0 r h M σ H) (i : Nat) (nd : ∀ l, r[i]? ≠ some (.ow (.dct l))) : ∃ M', Keep M H M' H ∧ Sv G M0 H0 (frzR i r) h M' σ H := by
  unfold frzR
  split
  · rename_i d e
    obtain ⟨a, h1, ro, n, nf⟩ := s.re.ow i d e
    obtain ⟨u, q, y⟩ := ro.some
    have kp : Keep M H (M.fr a) H := ⟨fun b z => ⟨.inl z, fun _ w => w⟩, fun _ _ w => w⟩
    have hi : i < r.length := (List.getElem?_eq_some_iff.mp e).1
    refine ⟨M.fr a, kp, ⟨s.ent.adF (s.own i d a e h1), s.rl.adoptF gk n q y, ⟨by simp [s.re.len], fun j d' q' => ?_, fun j d' q' => ?_, fun j k d' e' b q1 q2 s1 s2 => ?_⟩, fun j d' b q1 q2 => ?_⟩⟩
    · by_cases z : i = j
      · subst z
        rw [List.getElem?_set_self hi] at q'
        cases q'
        exact ⟨_, h1, ro.fz gk fun l z => nd l (by rw [e, z])⟩
      · rw [List.getElem?_set_ne z] at q'
        obtain ⟨v, h3, h4⟩ := s.re.pl j d' q'
        exact ⟨v, h3, h4.keep gk kp⟩
    · by_cases z : i = j
      · subst z
        rw [List.getElem?_set_self hi] at q'
        cases q'
      · rw [List.getElem?_set_ne z] at q'
        obtain ⟨b, h3, h4, h5, h6⟩ := s.re.ow j d' q'
        refine ⟨b, h3, h4.keep gk kp fun _ w => w, h5, fun z' => ?_⟩
        rcases z' with z' | z'
        · exact h6 z'
        · subst z'; exact z (s.re.one i j d d' b e q' h1 h3)
    · by_cases z : i = j
      · subst z; rw [List.getElem?_set_self hi] at q1; cases q1
      by_cases w : i = k
      · subst w; rw [List.getElem?_set_self hi] at q2; cases q2
      rw [List.getElem?_set_ne z] at q1
      rw [List.getElem?_set_ne w] at q2
      exact s.re.one j k d' e' b q1 q2 s1 s2
    · by_cases z : i = j
      · subst z; rw [List.getElem?_set_self hi] at q1; cases q1
      · rw [List.getElem?_set_ne z] at q1
        exact s.own j d' b q1 q2
  · exact ⟨M, Keep.refl, s⟩
theorem Sv.frzD (gk : Gk G) (s : Sv G M0 H0 r h M σ H) (i : Nat) {l : List (D × D)} (e : r[i]? = some (.ow (.dct l))) : ∃ a ks, H a = some (.dK ks) ∧ ∀ od, Keep M H (M.fr a) (upd H a (.frz od (.dK ks))) ∧ Sv G M0 H0 (frzR i r) h (M.fr a) σ (upd H a (.frz od (.dK ks))) := by
  unfold frzR
  rw [e]
  obtain ⟨a, h1, ro, n, nf⟩ := s.re.ow i _ e
  have hi : i < r.length := (List.getElem?_eq_some_iff.mp e).1
  cases ro with
  | dct q rk =>
  rename_i ks
  refine ⟨a, ks, q, fun od => ?_⟩
  have kp : Keep M H (M.fr a) (upd H a (.frz od (.dK ks))) := ⟨fun b z => ⟨Or.inl z, fun o w => by rw [upd_ne (fun z' => nf (by rw [← z']; exact z))]; exact w⟩, fun _ _ w => w⟩
  refine ⟨kp, ⟨(s.ent.up (s.own i _ a e h1)).adF (s.own i _ a e h1), (s.rl.poke gk n nf (nt_some q trivial)).adoptF gk n upd_same trivial, ⟨by simp [s.re.len], fun j d' q' => ?_, fun j d' q' => ?_, fun j k d' e' b q1 q2 s1 s2 => ?_⟩, fun j d' b q1 q2 => ?_⟩⟩
  · by_cases z : i = j
    · subst z
      simp only [List.getElem?_set_self hi] at q'
      cases q'
      exact ⟨_, h1, .dct (.inr rfl) upd_same (rk.keep gk kp)⟩
    · simp only [List.getElem?_set_ne z] at q'
      obtain ⟨v, h3, h4⟩ := s.re.pl j d' q'
      exact ⟨v, h3, h4.keep gk kp⟩
  · by_cases z : i = j
    · subst z
      simp only [List.getElem?_set_self hi] at q'
      cases q'
    · simp only [List.getElem?_set_ne z] at q'
      obtain ⟨b, h3, h4, h5, h6⟩ := s.re.ow j d' q'
      have hb : b ≠ a := fun z' => by subst z'; exact z (s.re.one i j _ d' b e q' h1 h3)
      refine ⟨b, h3, h4.keep gk kp fun u w => by rw [upd_ne hb]; exact w, h5, fun z' => ?_⟩
      rcases z' with z' | z'
      · exact h6 z'
      · exact hb z'
  · by_cases z : i = j
    · subst z; simp only [List.getElem?_set_self hi] at q1; cases q1
    by_cases w : i = k
    · subst w; simp only [List.getElem?_set_self hi] at q2; cases q2
    simp only [List.getElem?_set_ne z] at q1
    simp only [List.getElem?_set_ne w] at q2
    exact s.re.one j k d' e' b q1 q2 s1 s2
  · by_cases z : i = j
    · subst z; simp only [List.getElem?_set_self hi] at q1; cases q1
    · simp only [List.getElem?_set_ne z] at q1
      exact s.own j d' b q1 q2
end
theorem ss_ext {G : Gx} {Wx : WX} {M0 M : Mp} {H0 H : Hp} {Dn : Ends} {o : Out} {f : Rho → Hh → Out} (k : KO G Wx M0 H0 M H Dn (o.then f)) : KO G Wx M0 H0 M H { Dn with nx := fun σ' H' => tSm G Wx f Dn σ' H' } o := by
  cases o with
  | nx r h => exact fun σ' M' H' e s => ⟨M0, H0, r, h, M', s, KO.back e k⟩
  | rt d h => exact k
  | bk r h => exact k
  | ct r h => exact k
  | exc c fs r h => exact k
  | no => exact k
theorem sndSs : ∀ (l : List Si) {X : Cx} {G : Gx} {ck : Ck} {k : Nat} {Wx : WX} {st : List Stmt}, Cok X G ck k Wx → ck.sc.kind = .function → okSs l ck st = true → needSs l (tbOf X G k) → PSs X st (tSm G Wx (semSs l))
  | [], X, G, ck, k, Wx, st, C, hk, h, n => by
    cases st with
    | cons a b => simp [okSs] at h
    | nil => exact PSs.imp pss_nil fun Dn σ H ⟨M0, H0, r, hh, M, s, k⟩ => k σ M H Keep.refl s
  | .s x :: l, X, G, ck, k, Wx, st, C, hk, h, n => by
    cases st with
    | nil => simp [okSs] at h
    | cons a b =>
      simp only [okSs, Bool.and_eq_true] at h
      exact PSs.imp (pss_cons (x.snd C hk h.1 n.1) (sndSs l C hk h.2 n.2)) fun Dn σ H ⟨M0, H0, r, hh, M, s, k⟩ => ⟨M0, H0, r, hh, M, s, ss_ext k⟩
  | .frz i :: l, X, G, ck, k, Wx, st, C, hk, h, n => by
    have ih := sndSs l C hk (by simpa [okSs] using h) n
    refine ⟨fun pins sh σ H Dn I ⟨M0, H0, r, hh, M, s, k⟩ => ?_⟩
    by_cases z : ∃ l, r[i]? = some (.ow (.dct l))
    · obtain ⟨l', z⟩ := z
      obtain ⟨a, ks, q, f⟩ := s.frzD C.gk i z
      obtain ⟨od, I2⟩ := I.lock q trivial
      exact ih.run pins sh σ _ Dn I2 ⟨M0, H0, frzR i r, hh, M.fr a, (f od).2, KO.back (f od).1 k⟩
    · obtain ⟨M', e, s'⟩ := s.frz C.gk i fun l q => z ⟨l, q⟩
      exact ih.run pins sh σ H Dn I ⟨M0, H0, frzR i r, hh, M', s', KO.back e k⟩
  | .kill ks :: l, X, G, ck, k, Wx, st, C, hk, h, n => PSs.imp (sndSs l C hk (by simpa [okSs] using h) n) fun Dn σ H ⟨M0, H0, r, hh, M, s, k⟩ => ⟨M0, H0, killR ks r, hh, M, s.kill ks, k⟩
end Pf

set_option Elab.async false
set_option linter.all false
set_option maxRecDepth 100000
/-! ## The statements -/
namespace Pf
open PySem L2
/-- is the value a comprehension that the machine stores by itself -/
def swLc (sc : Scope) (v tg : Expr) : Bool :=
  match v with
  | .ListComp _ _ s p | .SetComp _ _ s p | .DictComp _ _ _ s p => (match tg with
    | .Name t pos => sc.names.lookup t == some .local && pos.line == p.line && !(s.names.any fun (n, k) => n == t && (k == .local || k == .cell))
    | _ => false)
  | _ => false
theorem swLc_ok {env : Env} {sc : Scope} {v tg : Expr} {l : Nat} (hs : env.scope = sc) (hk : sc.kind = .function) : swapsWithSole [tg] v l env = pure (swLc sc v tg) := by
  have hb : env.blockKind = .function := by unfold Env.blockKind; rw [hs, hk]; rfl
  show swapsWith v (some tg) l env = _
  unfold swapsWith swLc
  cases v <;> first | rfl | (cases tg <;> first | rfl | (simp only [hb, Env.kindOf, hs]; rfl))
/-- are the names of a = .. stored from the right -/
def swSt (sc : Scope) (tg v : Expr) : Option (Option (List Str)) :=
  match tg, v with
  | .Tuple ts _ _, .Tuple vs _ _ =>
    if !(ts.length == 2 || ts.length == 3) || vs.length != ts.length then some none else
    if (vs.any fun | .Starred .. => true | _ => false) then some none else
    let line := (ts.head?.map (·.pos.line)).getD 0
    let names := ts.filterMap fun
      | .Name id pos => if sc.names.lookup id == some .local && pos.line == line then some id else none
      | _ => none
    if names.length != ts.length || names.eraseDups.length != names.length then some none else
    if vs.all (foldedForSure 8) then some none else
    if vs.all (constantsAlone 8) then none else some (some names)
  | .List _ _, .Tuple _ _ _ => none
  | _, _ => some none
theorem swSt_ok {env : Env} {sc : Scope} {v tg : Expr} {r : Option (List Str)} (hs : env.scope = sc) (hk : sc.kind = .function) (h : swSt sc tg v = some r) : swappedStores [tg] v env = pure r := by
  have hb : env.blockKind = .function := by unfold Env.blockKind; rw [hs, hk]; rfl
  have key : ∀ {c : Bool} {A : Option (Option (List Str))} {B : Sem (Option (List Str))}, (if c = true then some none else A) = some r → (A = some r → B = pure r) → (if c = true then (pure none : Sem (Option (List Str))) else B) = pure r := by
    intro c A B h k
    cases c with
    | true => simp at h; subst h; rfl
    | false => simp at h; simpa using k h
  unfold swSt at h
  split at h
  · unfold swappedStores
    simp only [hb, Env.kindOf, hs]
    rw [show (ScopeKind.function != ScopeKind.function) = false from rfl, Bool.or_false]
    refine key h fun h => key h fun h => key h fun h => key h fun h => ?_
    split at h
    · cases h
    · rename_i hc
      cases h
      rw [if_neg hc]
      rfl
  · cases h
  · cases h
    unfold swappedStores
    rename_i h1 h2
    cases tg <;> first | rfl | (cases v <;> first | rfl | exact (h1 _ _ _ _ _ _ rfl rfl).elim | exact (h2 _ _ _ _ _ rfl rfl).elim)

def notComp : Expr → Bool
  | .ListComp _ _ _ _ => false | .SetComp _ _ _ _ => false | .DictComp _ _ _ _ _ => false
  | _ => true
section
variable {G : Gx} {M0 M M1 : Mp} {H0 H H1 : Hp} {r : Rho} {h : Hh} {σ : St} {a : Addr}
theorem Sv.set (s : Sv G M0 H0 r h M σ H) {i : Nat} {d : D} {v : V} (rv : RV G M H d v) : Sv G M0 H0 (r.set i (.pl d)) h M (σ.set i (some v)) H := by
  refine ⟨s.ent, s.rl, s.re.set rv, fun j e a q1 q2 => ?_⟩
  by_cases z : i = j
  · subst z
    by_cases hi : i < r.length
    · rw [List.getElem?_set_self hi] at q1; cases q1
    · rw [List.getElem?_eq_none (by simpa using hi)] at q1; cases q1
  · rw [List.getElem?_set_ne z] at q1 q2
    exact s.own j e a q1 q2
/-- names are set by a target -/
theorem Sv.put {t : Tg} {d : D} {r' : Rho} {σ' : St} (s : Sv G M0 H0 r h M σ H) (e : Tg.put t d r = some r') (re : RE G M H r' σ') (si : SetIn (Tg.sl t) σ σ') : Sv G M0 H0 r' h M σ' H := by
  have key : (∀ (t : Tg) (d : D) (r r' : Rho), Tg.put t d r = some r' → ∀ (j : Nat) (e : D), r'[j]? = some (Sl.ow e) → j ∉ Tg.sl t ∧ r[j]? = some (Sl.ow e)) := by
    have both : ∀ (n : Nat), (∀ (t : Tg), sizeOf t ≤ n → ∀ (d : D) (r r' : Rho), Tg.put t d r = some r' → ∀ (j : Nat) (e : D), r'[j]? = some (Sl.ow e) → j ∉ Tg.sl t ∧ r[j]? = some (Sl.ow e)) ∧ (∀ (ts : List Tg), sizeOf ts ≤ n → ∀ (ds : List D) (r r' : Rho), Tg.puts ts ds r = some r' → ∀ (j : Nat) (e : D), r'[j]? = some (Sl.ow e) → j ∉ Tg.sls ts ∧ r[j]? = some (Sl.ow e)) := by
      intro n
      induction n with
      | zero => exact ⟨fun t ht => by cases t <;> simp at ht, fun ts ht => by cases ts <;> simp at ht⟩
      | succ n ih =>
        refine ⟨fun t ht d r r' e j f q => ?_, fun ts ht ds r r' e j f q => ?_⟩
        · cases t with
          | n i =>
            simp only [Tg.put, Option.some.injEq] at e
            subst e
            by_cases z : i = j
            · subst z
              by_cases hi : i < r.length
              · rw [List.getElem?_set_self hi] at q; cases q
              · rw [List.getElem?_eq_none (by simpa using hi)] at q; cases q
            · rw [List.getElem?_set_ne z] at q
              exact ⟨by simp [Tg.sl, Ne.symm z], q⟩
          | tu ts =>
            unfold Tg.put at e
            split at e
            · split at e
              · have := ih.2 ts (by simp at ht; omega) _ _ _ e j f q
                exact ⟨by unfold Tg.sl; exact this.1, this.2⟩
              · cases e
            · cases e
        · cases ts with
          | nil =>
            unfold Tg.puts at e
            split at e
            · cases e; exact ⟨by simp [Tg.sls], q⟩
            · cases e
          | cons t ts =>
            unfold Tg.puts at e
            split at e
            · obtain ⟨r2, e1, e2⟩ := Option.bind_eq_some_iff.mp e
              have h1 := ih.2 ts (by simp at ht; omega) _ _ _ e2 j f q
              have h2 := ih.1 t (by simp at ht; omega) _ _ _ e1 j f h1.2
              exact ⟨by simp [Tg.sls, h1.1, h2.1], h2.2⟩
            · cases e
    exact fun t => (both (sizeOf t)).1 t (Nat.le_refl _)
  refine ⟨s.ent, s.rl, re, fun j f a q1 q2 => ?_⟩
  obtain ⟨h1, h2⟩ := key t d r r' e j f q1
  rw [si.2 j h1] at q2
  exact s.own j f a h2 q2
/-- a name gets a new thing of its own -/
theorem Sv.setO (s : Sv G M0 H0 r h M σ H) {i : Nat} {d : D} (ro : RO G M H a d) (n : a ∉ M.bs) (nf : ¬ M.F a) (hn : H0 a = none) (apart : ∀ (j : Nat) (e : D), j ≠ i → r[j]? = some (Sl.ow e) → σ[j]? ≠ some (some (V.ref a))) : Sv G M0 H0 (r.set i (.ow d)) h M (σ.set i (some (.ref a))) H := by
  refine ⟨s.ent, s.rl, ⟨by simp [s.re.len], fun j e q => ?_, fun j e q => ?_, fun j k d' e' b q1 q2 s1 s2 => ?_⟩, fun j e b q1 q2 => ?_⟩
  · by_cases z : i = j
    · subst z
      by_cases hi : i < r.length
      · rw [List.getElem?_set_self hi] at q; cases q
      · rw [List.getElem?_eq_none (by simpa using hi)] at q; cases q
    · rw [List.getElem?_set_ne z] at q ⊢
      exact s.re.pl j e q
  · by_cases z : i = j
    · subst z
      by_cases hi : i < r.length
      · rw [List.getElem?_set_self hi] at q
        cases q
        exact ⟨a, by rw [List.getElem?_set_self (by rw [← s.re.len]; exact hi)], ro, n, nf⟩
      · rw [List.getElem?_eq_none (by simpa using hi)] at q; cases q
    · rw [List.getElem?_set_ne z] at q ⊢
      exact s.re.ow j e q
  · by_cases z : i = j
    · by_cases w : i = k
      · exact z.symm.trans w
      · subst z
        by_cases hi : i < σ.length
        · rw [List.getElem?_set_self hi] at s1
          cases s1
          rw [List.getElem?_set_ne w] at q2 s2
          exact absurd s2 (apart k e' (Ne.symm w) q2)
        · rw [List.getElem?_eq_none (by simpa using hi)] at s1; cases s1
    · by_cases w : i = k
      · subst w
        by_cases hi : i < σ.length
        · rw [List.getElem?_set_self hi] at s2
          cases s2
          rw [List.getElem?_set_ne z] at q1 s1
          exact absurd s1 (apart j d' (Ne.symm z) q1)
        · rw [List.getElem?_eq_none (by simpa using hi)] at s2; cases s2
      · rw [List.getElem?_set_ne z] at q1 s1
        rw [List.getElem?_set_ne w] at q2 s2
        exact s.re.one j k d' e' b q1 q2 s1 s2
  · by_cases z : i = j
    · subst z
      by_cases hi : i < σ.length
      · rw [List.getElem?_set_self hi] at q2; cases q2; exact hn
      · rw [List.getElem?_eq_none (by simpa using hi)] at q2; cases q2
    · rw [List.getElem?_set_ne z] at q1 q2
      exact s.own j e b q1 q2
/-- a new thing stands apart from all that names own -/
theorem Sv.apart (s : Sv G M0 H0 r h M σ H) (ha : H a = none) (j : Nat) (e : D) (q : r[j]? = some (Sl.ow e)) : σ[j]? ≠ some (some (V.ref a)) := fun z => by
  obtain ⟨b, h1, ro, _⟩ := s.re.ow j e q
  rw [z] at h1; cases h1
  obtain ⟨u, q1, _⟩ := ro.some
  rw [ha] at q1; cases q1
/-- what a name owns is changed -/
theorem Sv.write (gk : Gk G) (s : Sv G M0 H0 r h M σ H) {j : Nat} {d d' : D} {o : HO} (q : r[j]? = some (Sl.ow d)) (q2 : σ[j]? = some (some (V.ref a))) (ro : RO G M (upd H a o) a d') : Keep M H M (upd H a o) ∧ Sv G M0 H0 (r.set j (.ow d')) h M σ (upd H a o) := by
  obtain ⟨b, h1, ro0, n, nf⟩ := s.re.ow j d q
  rw [q2] at h1; cases h1
  have hn := s.own j d a q q2
  have kp : Keep M H M (upd H a o) := Keep.poke nf
  have hj : j < r.length := (List.getElem?_eq_some_iff.mp q).1
  refine ⟨kp, ⟨kn_up (h := h) gk s.ent hn, s.rl.poke gk n nf (by obtain ⟨u, hu, hs⟩ := ro0.some; exact nt_some hu hs), ⟨by simp [s.re.len], fun i e p => ?_, fun i e p => ?_, fun i k d' e' b q1 q2' s1 s2 => ?_⟩, fun i e b p1 p2 => ?_⟩⟩
  · by_cases z : j = i
    · subst z; rw [List.getElem?_set_self hj] at p; cases p
    · rw [List.getElem?_set_ne z] at p
      obtain ⟨v, h3, h4⟩ := s.re.pl i e p
      exact ⟨v, h3, h4.keep gk kp⟩
  · by_cases z : j = i
    · subst z
      rw [List.getElem?_set_self hj] at p
      cases p
      exact ⟨a, q2, ro, n, nf⟩
    · rw [List.getElem?_set_ne z] at p
      obtain ⟨b, h3, h4, h5, h6⟩ := s.re.ow i e p
      have hne : b ≠ a := fun w => by subst w; exact z (s.re.one j i d e b q p q2 h3)
      exact ⟨b, h3, h4.keep gk kp fun w x => by rw [upd_ne hne]; exact x, h5, h6⟩
  · have f : ∀ {i : Nat} {e : D}, (r.set j (.ow d'))[i]? = some (Sl.ow e) → ∃ e, r[i]? = some (Sl.ow e) := fun {i e} p => by
      by_cases z : j = i
      · subst z; exact ⟨d, q⟩
      · rw [List.getElem?_set_ne z] at p; exact ⟨e, p⟩
    have g : ∀ {i : Nat} {e : D} {x : Sl}, (r.set j x)[i]? = some (Sl.ow e) → ∃ e, r[i]? = some (Sl.ow e) := fun {i e x} p => by
      by_cases z : j = i
      · subst z; exact ⟨d, q⟩
      · rw [List.getElem?_set_ne z] at p; exact ⟨e, p⟩
    obtain ⟨e1, p1⟩ := g q1
    obtain ⟨e2, p2⟩ := g q2'
    exact s.re.one i k e1 e2 b p1 p2 s1 s2
  · by_cases z : j = i
    · subst z; rw [q2] at p2; cases p2; exact hn
    · rw [List.getElem?_set_ne z] at p1
      exact s.own i e b p1 p2
end

/-! x = e -/
def asgB (t : Tg) (x : Ck → Expr → Bool) (ck : Ck) (st : Stmt) : Bool := match st with
  | .Assign [tg] v _ => Tg.ok ck t tg && !swLc ck.sc v tg && x ck v && decide (swSt ck.sc tg v = some none)
  | _ => false
theorem asgB_some {t : Tg} {x : Ck → Expr → Bool} {ck : Ck} {st : Stmt} (h : asgB t x ck st = true) : ∃ tg v p, st = .Assign [tg] v p ∧ Tg.ok ck t tg = true ∧ swLc ck.sc v tg = false ∧ x ck v = true ∧ swSt ck.sc tg v = some none := by
  unfold asgB at h
  split at h
  · simp only [Bool.and_eq_true, Bool.not_eq_true', decide_eq_true_eq] at h
    exact ⟨_, _, _, rfl, h.1.1.1, h.1.1.2, h.1.2, h.2⟩
  · cases h
def ofP (o : Option Rho) (h : Hh) : Out := match o with
  | some r => .nx r h
  | none => .no
@[simp] theorem ofP_some {r : Rho} {h : Hh} : ofP (some r) h = .nx r h := rfl
theorem tgt_plain {ck : Ck} {t : Tg} {tg : Expr} (ht : Tg.ok ck t tg = true) : (∃ x p, tg = .Name x p) ∨ ∃ es k p, tg = .Tuple es k p := by
  cases t <;> cases tg <;> first | (exact .inl ⟨_, _, rfl⟩) | (exact .inr ⟨_, _, _, rfl⟩) | (simp [Tg.ok] at ht)
def Sm.asg (t : Tg) (x : Xp) : Sm where
  sem r h := (x.sem r h).st r fun d h1 => ofP (t.put d r) h1
  ok := asgB t x.ok
  need := x.need
  snd {X G ck k Wx a} C hk h n := by
    obtain ⟨tg, v, p, rfl, ht, h1, hx, h2⟩ := asgB_some h
    refine PS.imp (ps_asg (x.snd C hx n) (sg_T C t ht) (by rw [swLc_ok C.hsc hk, h1]) (swSt_ok C.hsc hk h2) ?_) fun Dn σ H ⟨M0, H0, r, hh, M, s, k⟩ => ⟨r, hh, M, s.rl, s.re, oneS C.gk s k fun d v h1 M1 H1 e1 s1 rv k1 => ?_⟩
    · rcases tgt_plain ht with ⟨x, p, rfl⟩ | ⟨es, k, p, rfl⟩ <;> rfl
    · cases e : t.put d r with
      | none => rw [e] at k1; exact k1.elim
      | some r' =>
        rw [e] at k1
        exact ⟨d, r, h1, M1, r', s1.rl, s1.re, rv, e, fun σ' re' si => k1 σ' M1 H1 Keep.refl (s1.put e re' si)⟩
/-- a name gets a new thing of its own -/
def Sm.asgO (i : Nat) (x : Xn) : Sm where
  sem r h := (x.sem r h).st r fun d h1 => .nx (r.set i (.ow d)) h1
  ok := asgB (.n i) x.ok
  need := x.need
  snd {X G ck k Wx a} C hk h n := by
    obtain ⟨tg, v, p, rfl, ht, h1, hx, h2⟩ := asgB_some h
    cases tg <;> simp only [Tg.ok, Bool.false_eq_true] at ht
    simp only [Bool.and_eq_true, atB, decide_eq_true_eq] at ht
    obtain ⟨s1, s2⟩ := st_of C ht.2
    refine PS.imp (ps_asg (x.snd C hx n) (pg_name C.nd (by rw [C.hN]; exact ht.1) s1 s2) (by rw [swLc_ok C.hsc hk, h1]) (swSt_ok C.hsc hk h2) rfl) fun Dn σ H ⟨M0, H0, r, hh, M, s, k⟩ => ⟨r, hh, M, s.rl, s.re, oneS C.gk s k fun d v h1 M1 H1 e1 s1 rv k1 => ?_⟩
    obtain ⟨a, rfl, ro, na, nf, hn⟩ := rv
    exact k1 _ M1 H1 Keep.refl (s1.setO ro na nf (s.ent.trk _ hn) fun j e _ q => s.apart hn j e q)
/-! x = [..] on one line: the machine stores by itself -/
def lcStB (i : Nat) (x : Ck → Expr → Bool) (ck : Ck) (st : Stmt) : Bool := match st with
  | .Assign [.Name y p] v _ => atB ck i y && stB ck y && swLc ck.sc v (.Name y p) && x ck v
  | _ => false
theorem ps_lc {X : Cx} {G : Gx} {ck : Ck} {k : Nat} {Wx : WX} {st : Stmt} {i : Nat} {e : Xp} {t : Tg} {it : Ib} {ifs : Option Xt} {own : List (Str × Nat)} (C : Cok X G ck k Wx) (hk : ck.sc.kind = .function) (h : lcStB i (lcB e t it ifs own) ck st = true) (n : (Xn.lc e t it ifs own).need (tbOf X G k)) :
    PS X st (fun Dn σ H => tN G Wx (lcSem e t it ifs own) σ H fun v H1 => Dn.nx (σ.set i (some v)) H1) := by
  unfold lcStB at h
  split at h
  · simp only [Bool.and_eq_true, atB, decide_eq_true_eq] at h
    obtain ⟨⟨⟨ha, hst⟩, hsw⟩, hl⟩ := h
    obtain ⟨x, tg, iter, cs, scope, p, rfl, h1, h2, h3, h4, h5, h6, h7⟩ := lcB_some hl
    rename_i y py ps
    have sw := swLc_ok (l := ps.line) (v := .ListComp x [⟨tg, iter, cs, 0⟩] scope p) (tg := .Name y py) C.hsc hk
    rw [hsw] at sw
    have hyl : X.env.scope.names.lookup y = some .local := by
      unfold swLc at hsw
      simp only [Bool.and_eq_true, beq_iff_eq] at hsw
      rw [C.hsc]
      exact hsw.1.1
    exact PS.imp (ps_setLc C.calm C.nd (by rw [C.hN]; exact ha) hyl sw (it.snd C h7 h3 n.2.1) (blkOk_by (by rw [C.hN, C.hsc]; exact h1))
      (fun s H Cc cl fp => sg_T (C.blk (s := s) (H := H) (scope := scope) (Cc := Cc) (cl := cl) (fp := fp)) t h4)
      (fun s H Cc cl fp => sndT ifs (C.blk (s := s) (H := H) (scope := scope) (Cc := Cc) (cl := cl) (fp := fp)) h5 n.2.2)
      (fun s H Cc cl fp => e.snd (C.blk (s := s) (H := H) (scope := scope) (Cc := Cc) (cl := cl) (fp := fp)) h6 n.1) (by
        have h4 := it.set _ _ h3
        intro v
        cases iter <;> first | rfl | (simp [notSet] at h4))) fun Dn σ H q => lc_read C h2 σ H _ q
  · cases h
def Sm.asgLc (i : Nat) (e : Xp) (t : Tg) (it : Ib) (ifs : Option Xt) (own : List (Str × Nat)) : Sm where
  sem r h := (lcSem e t it ifs own r h).st r fun d h1 => .nx (r.set i (.pl d)) h1
  ok := lcStB i (lcB e t it ifs own)
  need := (Xn.lc e t it ifs own).need
  snd {X G ck k Wx a} C hk h n := PS.imp (ps_lc C hk h n) fun Dn σ H ⟨M0, H0, r, hh, M, s, k⟩ => ⟨r, hh, M, s.rl, s.re, kn_fz C.gk (lcSem_nd) (oneS C.gk s k fun d v h1 M1 H1 e1 s1 rv k1 => k1 _ M1 H1 Keep.refl (s1.set rv))⟩
def Sm.asgOLc (i : Nat) (e : Xp) (t : Tg) (it : Ib) (ifs : Option Xt) (own : List (Str × Nat)) : Sm where
  sem r h := (lcSem e t it ifs own r h).st r fun d h1 => .nx (r.set i (.ow d)) h1
  ok := lcStB i (lcB e t it ifs own)
  need := (Xn.lc e t it ifs own).need
  snd {X G ck k Wx a} C hk h n := PS.imp (ps_lc C hk h n) fun Dn σ H ⟨M0, H0, r, hh, M, s, k⟩ => ⟨r, hh, M, s.rl, s.re, oneS C.gk s k fun d v h1 M1 H1 e1 s1 rv k1 => by
    obtain ⟨a, rfl, ro, na, nf, hn⟩ := rv
    exact k1 _ M1 H1 Keep.refl (s1.setO ro na nf (s.ent.trk _ hn) fun j e _ q => s.apart hn j e q)⟩
def Sm.ex (x : Xp) : Sm where
  sem r h := (x.sem r h).st r fun _ h1 => .nx r h1
  ok ck st := match st with
    | .Expr a _ => x.ok ck a && notComp a
    | _ => false
  need := x.need
  snd {X G ck k Wx a} C hk h n := by
    split at h
    · rename_i a p
      simp only [Bool.and_eq_true] at h
      refine PS.imp (ps_expr (x.snd C h.1 n) ?_) fun Dn σ H ⟨M0, H0, r, hh, M, s, k⟩ => ⟨r, hh, M, s.rl, s.re, oneS C.gk s k fun d v h1 M1 H1 e1 s1 rv k1 => k1 σ M1 H1 Keep.refl s1⟩
      have h2 := h.2
      cases a <;> first | rfl | (simp [notComp] at h2)
    · cases h
def Sm.ret (x : Xp) : Sm where
  sem r h := (x.sem r h).st r fun d h1 => .rt d h1
  ok ck st := match st with
    | .Return (some a) _ => x.ok ck a
    | _ => false
  need := x.need
  snd {X G ck k Wx a} C hk h n := by
    split at h
    · exact PS.imp (ps_ret (x.snd C h n)) fun Dn σ H ⟨M0, H0, r, hh, M, s, k⟩ => ⟨r, hh, M, s.rl, s.re, oneS C.gk s k fun d v h1 M1 H1 e1 s1 rv k1 => k1 v M1 H1 s1.ent s1.rl rv⟩
    · cases h
def Sm.retN : Sm where
  sem r h := .rt .non h
  ok ck st := match st with
    | .Return none _ => true
    | _ => false
  need _ := True
  snd {X G ck k Wx a} C hk h n := by
    split at h
    · exact PS.imp ps_retN fun Dn σ H ⟨M0, H0, r, hh, M, s, k⟩ => k _ M H s.ent s.rl .non
    · cases h
def Sm.pass : Sm where
  sem r h := .nx r h
  ok ck st := match st with
    | .Pass _ => true
    | _ => false
  need _ := True
  snd {X G ck k Wx a} C hk h n := by
    split at h
    · exact PS.imp ps_pass fun Dn σ H ⟨M0, H0, r, hh, M, s, k⟩ => k σ M H Keep.refl s
    · cases h
def Sm.brk : Sm where
  sem r h := .bk r h
  ok ck st := match st with
    | .Break _ => true
    | _ => false
  need _ := True
  snd {X G ck k Wx a} C hk h n := by
    split at h
    · exact PS.imp ps_break fun Dn σ H ⟨M0, H0, r, hh, M, s, k⟩ => k σ M H Keep.refl s
    · cases h
def Sm.cont : Sm where
  sem r h := .ct r h
  ok ck st := match st with
    | .Continue _ => true
    | _ => false
  need _ := True
  snd {X G ck k Wx a} C hk h n := by
    split at h
    · exact PS.imp ps_continue fun Dn σ H ⟨M0, H0, r, hh, M, s, k⟩ => k σ M H Keep.refl s
    · cases h
/-- never reached -/
def Sm.nev : Sm where
  sem _ _ := .no
  ok _ _ := true
  need _ := True
  snd {X G ck k Wx a} C hk h n := PS.imp ps_never fun Dn σ H ⟨M0, H0, r, hh, M, s, k⟩ => k
/-- a text alone -/
def Sm.doc : Sm where
  sem r h := .nx r h
  ok ck st := match st with
    | .Expr (.Constant (.str _) _ _) _ => true
    | _ => false
  need _ := True
  snd {X G ck k Wx a} C hk h n := by
    split at h
    · exact PS.imp ps_doc fun Dn σ H ⟨M0, H0, r, hh, M, s, k⟩ => k σ M H Keep.refl s
    · cases h
def Sm.ife (t : Xt) (a b : List Si) : Sm where
  sem r h := (t.sem r h).st r fun c h1 => if c then semSs a r h1 else semSs b r h1
  ok ck st := match st with
    | .If c x y _ => t.ok ck c && okSs a ck x && okSs b ck y
    | _ => false
  need z := t.need z ∧ needSs a z ∧ needSs b z
  snd {X G ck k Wx st} C hk h n := by
    split at h
    · simp only [Bool.and_eq_true] at h
      refine PS.imp (ps_if (t.snd C h.1.1 n.1) (sndSs a C hk h.1.2 n.2.1) (sndSs b C hk h.2 n.2.2)) fun Dn σ H ⟨M0, H0, r, hh, M, s, k⟩ => ⟨r, hh, M, s.rl, s.re, oneS C.gk s k fun d v h1 M1 H1 e1 s1 rv k1 => ?_⟩
      subst rv
      cases d with
      | true => exact ⟨M0, H0, r, h1, M1, s1, k1⟩
      | false => exact ⟨M0, H0, r, h1, M1, s1, k1⟩
    · cases h
end Pf

set_option Elab.async false
set_option linter.all false
set_option maxRecDepth 100000
/-! ## Loops, things that names own -/
namespace Pf
open PySem L2
def forGo (t : Tg) (bd : Rho → Hh → Out) : List D → Rho → Hh → Out
  | [], r, h => .nx r h
  | x :: xs, r, h => match t.put x r with
    | none => .no
    | some r2 => match bd r2 h with
      | .nx r3 h3 => forGo t bd xs r3 h3
      | .ct r3 h3 => forGo t bd xs r3 h3
      | .bk r3 h3 => .nx r3 h3
      | o => o
def Sm.for_ (t : Tg) (it : Ib) (body : List Si) : Sm where
  sem r h := (it.sem r h).st r fun xs h1 => forGo t (semSs body) xs r h1
  ok ck st := match st with
    | .For tg i b [] _ => Tg.ok ck t tg && it.tgt tg && it.ok ck i && okSs body ck b
    | _ => false
  need z := it.need z ∧ needSs body z
  snd {X G ck k Wx st} C hk h n := by
    split at h
    · rename_i tg i b p
      simp only [Bool.and_eq_true] at h
      obtain ⟨⟨⟨ht, hg⟩, hi⟩, hb⟩ := h
      refine PS.imp (ps_for C.own C.calm (it.snd C hg hi n.1) (sg_T C t ht) (sndSs body C hk hb n.2) (by
        have hn := it.set _ _ hi
        intro v
        cases i <;> first | rfl | (simp [notSet] at hn))) fun Dn σ H ⟨M0, H0, r, hh, M, s, k⟩ => ⟨r, hh, M, s.rl, s.re, ?_⟩
      dsimp only at k
      cases q0 : it.sem r hh with
      | no => rw [q0] at k; exact k
      | exc c fs h' => rw [q0] at k; exact fun cls dx M' H' e rl rx => k cls dx σ M' H' (e.kp s.rl) (s.step C.gk e rl) rx
      | ok ys hx =>
        rw [q0] at k
        simp only [st_ok] at k
        intro J M1 H1 e1 r1 ok
        refine ⟨fun i m σ' H' => m = ys.length - i ∧ i ≤ ys.length ∧ ∃ r' h' M', Keep M1 H1 M' H' ∧ Sv G M0 H0 r' h' M' σ' H' ∧ KO G Wx M0 H0 M1 H1 Dn (forGo t (semSs body) (ys.drop i) r' h'), ⟨ys.length, by simp, Nat.zero_le _, r, hx, M1, Keep.refl, s.step C.gk e1 r1, by simpa using k.back (e1.kp s.rl)⟩, ?_⟩
        rintro i m σ' H' ⟨rfl, hi', r', h', M', e2, s2, k2⟩
        have ok2 := ok h' M' H' e2 s2.rl
        by_cases hlt : i < ys.length
        · refine .inr ⟨(ok2.1 i hlt).1, fun σ4 H4 => ∃ r4 h4 M4, Keep M1 H1 M4 H4 ∧ Sv G M0 H0 r4 h4 M4 σ4 H4 ∧ KO G Wx M0 H0 M1 H1 Dn (forGo t (semSs body) (ys.drop (i + 1)) r4 h4), fun σ4 H4 q => ⟨ys.length - (i + 1), by omega, rfl, by omega, q⟩, fun y H3 hy => ?_⟩
          obtain ⟨d, M3, ed, e3, r3, rv3⟩ := (ok2.1 i hlt).2 y H3 hy
          have s3 := s2.step C.gk e3 r3
          have k13 := e2.trans (e3.kp s2.rl)
          have hdrop : ys.drop i = d :: ys.drop (i + 1) := by
            rw [List.drop_eq_getElem_cons hlt]
            rw [List.getElem?_eq_getElem hlt] at ed
            cases ed; rfl
          rw [hdrop, forGo] at k2
          split at k2
          · exact k2.elim
          · rename_i r4 ep
            refine ⟨d, r', h', M3, r4, r3, s3.re, rv3, ep, fun σ4 re4 si => ⟨M0, H0, r4, h', M3, s3.put ep re4 si, ?_⟩⟩
            cases q1 : semSs body r4 h' with
            | nx r5 h5 => rw [q1] at k2; exact fun σ5 M5 H5 e5 s5 => ⟨r5, h5, M5, k13.trans e5, s5, k2⟩
            | ct r5 h5 => rw [q1] at k2; exact fun σ5 M5 H5 e5 s5 => ⟨r5, h5, M5, k13.trans e5, s5, k2⟩
            | bk r5 h5 => rw [q1] at k2; exact fun σ5 M5 H5 e5 s5 => k2 σ5 M5 H5 (k13.trans e5) s5
            | rt d5 h5 => rw [q1] at k2; exact fun v M5 H5 e5 r5 rv => k2 v M5 H5 e5 r5 rv
            | exc c fs r5 h5 => rw [q1] at k2; exact fun cls dx σ5 M5 H5 e5 s5 rx => k2 cls dx σ5 M5 H5 (k13.trans e5) s5 rx
            | no => rw [q1] at k2; exact k2
        · have ei : ys.drop i = [] := List.drop_eq_nil_iff.mpr (by omega)
          rw [ei, forGo] at k2
          exact .inl ⟨ok2.2 i (by omega), k2 σ' M' H' e2 s2⟩
    · cases h
def whGo (t : Rho → Hh → Res Bool) (bd : Rho → Hh → Out) : Nat → Rho → Hh → Out
  | 0, _, _ => .no
  | n + 1, r, h => (t r h).st r fun c h1 => if c then match bd r h1 with
      | .nx r3 h3 => whGo t bd n r3 h3
      | .ct r3 h3 => whGo t bd n r3 h3
      | .bk r3 h3 => .nx r3 h3
      | o => o
    else .nx r h1
/-- while; at most n turns -/
def Sm.whl (n : Nat) (t : Xt) (body : List Si) : Sm where
  sem r h := whGo t.sem (semSs body) n r h
  ok ck st := match st with
    | .While c b [] _ => t.ok ck c && okSs body ck b
    | _ => false
  need z := t.need z ∧ needSs body z
  snd {X G ck k Wx st} C hk h nd := by
    split at h
    · simp only [Bool.and_eq_true] at h
      refine PS.imp (ps_while C.own (t.snd C h.1 nd.1) (sndSs body C hk h.2 nd.2)) fun Dn σ H ⟨M0, H0, r, hh, M, s, k⟩ => ?_
      refine ⟨fun m σ' H' => ∃ r' h' M', Sv G M0 H0 r' h' M' σ' H' ∧ KO G Wx M0 H0 M' H' Dn (whGo t.sem (semSs body) m r' h'), ⟨n, r, hh, M, s, k⟩, ?_⟩
      rintro m σ' H' ⟨r', h', M', s2, k2⟩
      cases m with
      | zero => exact k2.elim
      | succ m =>
        rw [whGo] at k2
        refine ⟨r', h', M', s2.rl, s2.re, oneS C.gk s2 k2 fun d v h1 M1 H1 e1 s1 rv k1 => ?_⟩
        subst rv
        cases d with
        | false => exact k1 σ' M1 H1 Keep.refl s1
        | true =>
          simp only [if_true] at k1 ⊢
          refine ⟨fun σ4 H4 => ∃ r4 h4 M4, Sv G M0 H0 r4 h4 M4 σ4 H4 ∧ KO G Wx M0 H0 M4 H4 Dn (whGo t.sem (semSs body) m r4 h4), fun σ4 H4 q => ⟨m, by omega, q⟩, M0, H0, r', h1, M1, s1, ?_⟩
          cases q1 : semSs body r' h1 with
          | nx r5 h5 => rw [q1] at k1; exact fun σ5 M5 H5 e5 s5 => ⟨r5, h5, M5, s5, KO.back e5 k1⟩
          | ct r5 h5 => rw [q1] at k1; exact fun σ5 M5 H5 e5 s5 => ⟨r5, h5, M5, s5, KO.back e5 k1⟩
          | bk r5 h5 => rw [q1] at k1; exact fun σ5 M5 H5 e5 s5 => k1 σ5 M5 H5 e5 s5
          | rt d5 h5 => rw [q1] at k1; exact fun v M5 H5 e5 r5 rv => k1 v M5 H5 e5 r5 rv
          | exc c fs r5 h5 => rw [q1] at k1; exact fun cls dx σ5 M5 H5 e5 s5 rx => k1 cls dx σ5 M5 H5 e5 s5 rx
          | no => rw [q1] at k1; exact k1
    · cases h

/-! ### a, b = e, f: names with values, names with new things of their own -/
abbrev Xa := Xp ⊕ Xn
def Xa.sem : Xa → Rho → Hh → Res (Bool × D)
  | .inl x, r, h => (x.sem r h).bind fun d h1 => .ok (false, d) h1
  | .inr x, r, h => (x.sem r h).bind fun d h1 => .ok (true, d) h1
def Xa.ok : Xa → Ck → Expr → Bool
  | .inl x => x.ok
  | .inr x => x.ok
def Xa.need : Xa → Tb → Prop
  | .inl x => x.need
  | .inr x => x.need
theorem Xa.star : ∀ (x : Xa) ck a, Xa.ok x ck a = true → notStar a = true
  | .inl x => x.star
  | .inr x => x.star
def ows : List (Bool × D) → List V → List V
  | (true, _) :: l, v :: xs => v :: ows l xs
  | (false, _) :: l, _ :: xs => ows l xs
  | _, _ => []
inductive RA (Hs : Hp) (G : Gx) (M : Mp) (H : Hp) : List (Bool × D) → List V → Prop
  | nil : RA Hs G M H [] []
  | pl {d : D} {v : V} {l : List (Bool × D)} {xs : List V} : RV G M H d v → RA Hs G M H l xs → RA Hs G M H ((false, d) :: l) (v :: xs)
  | ow {d : D} {v : V} {l : List (Bool × D)} {xs : List V} : RN Hs G M H d v → v ∉ ows l xs → RA Hs G M H l xs → RA Hs G M H ((true, d) :: l) (v :: xs)
def semX : List Xa → Rho → Hh → Res (List (Bool × D))
  | [], _, h => .ok [] h
  | x :: xs, r, h => (Xa.sem x r h).bind fun d h1 => (semX xs r h1).bind fun ds h2 => .ok (d :: ds) h2
def okX : List Xa → Ck → List Expr → Bool
  | [], _, es => es.isEmpty
  | x :: xs, ck, es => match es with
    | e :: r => Xa.ok x ck e && okX xs ck r
    | [] => false
def needX : List Xa → Tb → Prop
  | [], _ => True
  | x :: xs, t => Xa.need x t ∧ needX xs t
theorem RA.ows {Hs : Hp} {G : Gx} {M : Mp} {H : Hp} : ∀ {l : List (Bool × D)} {xs : List V}, RA Hs G M H l xs → ∀ v ∈ ows l xs, ∃ a, v = .ref a ∧ Hs a = none
  | _, _, .nil, v, h => by simp [Pf.ows] at h
  | _, _, .pl _ t, v, h => t.ows v (by simpa [Pf.ows] using h)
  | _, _, .ow n _ t, v, h => by
    simp only [Pf.ows, List.mem_cons] at h
    rcases h with rfl | h
    · obtain ⟨a, rfl, _, _, _, hn⟩ := n
      exact ⟨a, rfl, hn⟩
    · exact t.ows v h
theorem RN.ext {Hs : Hp} {G : Gx} {h : Hh} {M M' : Mp} {H H' : Hp} {d : D} {v : V} (gk : Gk G) (rl : RL G h M H) (e : Ext M H M' H') (x : RN Hs G M H d v) : RN Hs G M' H' d v := by
  obtain ⟨a, rfl, ro, n, nf, hn⟩ := x
  obtain ⟨u, q, y⟩ := ro.some
  exact ⟨a, rfl, ro.ext gk rl e n, e.off q n, e.offF rl q y n nf, hn⟩
theorem RA.back {Hs Ht : Hp} {G : Gx} {M : Mp} {H : Hp} (e : ∀ b, Ht b = none → Hs b = none) : ∀ {l : List (Bool × D)} {xs : List V}, RA Ht G M H l xs → RA Hs G M H l xs
  | _, _, .nil => .nil
  | _, _, .pl r t => .pl r (t.back e)
  | _, _, .ow ⟨a, h1, h2, h3, h4, h5⟩ n t => .ow ⟨a, h1, h2, h3, h4, e a h5⟩ n (t.back e)
def tX (G : Gx) (Wx : WX) (sem : Rho → Hh → Res (List (Bool × D))) : TA := fun σ H Qv => ∃ r h M, RL G h M H ∧ RE G M H r σ ∧ KG (RA H G) G Wx σ M H Qv (sem r h)
theorem sndX : ∀ (xs : List Xa) {X : Cx} {G : Gx} {ck : Ck} {k : Nat} {Wx : WX} {es : List Expr}, Cok X G ck k Wx → okX xs ck es = true → needX xs (tbOf X G k) → PA X es (tX G Wx (semX xs))
  | [], X, G, ck, k, Wx, es, C, h, n => by
    cases es with
    | cons a b => simp [okX] at h
    | nil => exact PA.imp pa_nil fun σ H Qv ⟨r, h, M, rl, re, k⟩ => k.here rl .nil
  | .inl x :: xs, X, G, ck, k, Wx, es, C, h, n => by
    cases es with
    | nil => simp [okX] at h
    | cons a b =>
      simp only [okX, Bool.and_eq_true] at h
      refine PA.imp (pa_cons (x.snd C h.1 n.1) (sndX xs C h.2 n.2) (star_cons (Xa.star _ _ _ h.1) _)) fun σ H Qv ⟨r, h, M, rl, re, k⟩ => ⟨r, h, M, rl, re, ?_⟩
      rw [semX, Xa.sem] at k
      have k : KG (RA H G) G Wx σ M H Qv ((x.sem r h).bind fun d h1 => (semX xs r h1).bind fun ds h2 => .ok ((false, d) :: ds) h2) := by
        cases q : x.sem r h <;> rw [q] at k <;> exact k
      exact one k fun d v h1 M1 H1 e1 r1 b1 k1 => ⟨r, h1, M1, r1, re.ext C.gk rl e1, one k1 fun e u h2 M2 H2 e2 r2 b2 k2 => k2.here r2 (.pl (b1.ext C.gk r1 e2) (b2.back e1.trk))⟩
  | .inr x :: xs, X, G, ck, k, Wx, es, C, h, n => by
    cases es with
    | nil => simp [okX] at h
    | cons a b =>
      simp only [okX, Bool.and_eq_true] at h
      refine PA.imp (pa_cons (x.snd C h.1 n.1) (sndX xs C h.2 n.2) (star_cons (Xa.star _ _ _ h.1) _)) fun σ H Qv ⟨r, h, M, rl, re, k⟩ => ⟨r, h, M, rl, re, ?_⟩
      rw [semX, Xa.sem] at k
      have k : KG (RA H G) G Wx σ M H Qv ((x.sem r h).bind fun d h1 => (semX xs r h1).bind fun ds h2 => .ok ((true, d) :: ds) h2) := by
        cases q : x.sem r h <;> rw [q] at k <;> exact k
      refine one k fun d v h1 M1 H1 e1 r1 b1 k1 => ⟨r, h1, M1, r1, re.ext C.gk rl e1, one k1 fun e u h2 M2 H2 e2 r2 b2 k2 => k2.here r2 (.ow (RN.ext C.gk r1 e2 b1) (fun z => ?_) (b2.back e1.trk))⟩
      obtain ⟨b, rfl, hb⟩ := b2.ows _ z
      obtain ⟨a, ea, ro, _⟩ := b1
      cases ea
      obtain ⟨w, q, _⟩ := ro.some
      rw [hb] at q; cases q
def slOf : Bool × D → Sl
  | (false, d) => .pl d
  | (true, d) => .ow d
def setsX : List Nat → List (Bool × D) → Rho → Option Rho
  | [], [], r => some r
  | i :: is, d :: ds, r => setsX is ds (r.set i (slOf d))
  | _, _, _ => none
def setsV : List Nat → List V → St → St
  | i :: is, v :: vs, σ => setsV is vs (σ.set i (some v))
  | _, _, σ => σ
theorem Sv.setsX {G : Gx} {M0 M : Mp} {H0 H Hs : Hp} {h : Hh} : ∀ {is : List Nat} {ds : List (Bool × D)} {vs : List V} {r r' : Rho} {σ : St}, Sv G M0 H0 r h M σ H → RA Hs G M H ds vs → (∀ b, Hs b = none → H0 b = none) →
    (∀ v ∈ Pf.ows ds vs, ∀ (j : Nat) (e : D), r[j]? = some (Sl.ow e) → σ[j]? ≠ some (some v)) → Pf.setsX is ds r = some r' → Sv G M0 H0 r' h M (setsV is vs σ) H
  | [], [], _, r, r', σ, s, .nil, _, _, e => by simp only [Pf.setsX, Option.some.injEq] at e; subst e; exact s
  | [], _ :: _, _, r, r', σ, s, ra, _, _, e => by simp [Pf.setsX] at e
  | _ :: _, [], _, r, r', σ, s, ra, _, _, e => by simp [Pf.setsX] at e
  | i :: is, (false, d) :: ds, _, r, r', σ, s, .pl rv t, hb, ap, e => by
    simp only [Pf.setsX, slOf] at e
    rw [setsV]
    refine Sv.setsX (s.set rv) t hb (fun v hv j f q => ?_) e
    by_cases z : i = j
    · subst z
      by_cases hi : i < r.length
      · rw [List.getElem?_set_self hi] at q; cases q
      · rw [List.getElem?_eq_none (by simpa using hi)] at q; cases q
    · rw [List.getElem?_set_ne z] at q ⊢
      exact ap v (by simpa [Pf.ows] using hv) j f q
  | i :: is, (true, d) :: ds, _, r, r', σ, s, .ow (v := v) ⟨a, ea, ro, na, nf, hn⟩ nv t, hb, ap, e => by
    subst ea
    simp only [Pf.setsX, slOf] at e
    have hav : ∀ (j : Nat) (f : D), j ≠ i → r[j]? = some (Sl.ow f) → σ[j]? ≠ some (some (V.ref a)) := fun j f _ q => ap _ (by simp [Pf.ows]) j f q
    rw [setsV]
    refine Sv.setsX (s.setO ro na nf (hb a hn) hav) t hb (fun w hw j f q => ?_) e
    by_cases z : i = j
    · subst z
      by_cases hi : i < σ.length
      · rw [List.getElem?_set_self hi]
        intro q'
        have : w = V.ref a := (Option.some.inj (Option.some.inj q')).symm
        subst this
        exact nv hw
      · rw [List.getElem?_eq_none (by simpa using hi)]; simp
    · rw [List.getElem?_set_ne z] at q ⊢
      exact ap w (by simp [Pf.ows, hw]) j f q
theorem RA.length {Hs : Hp} {G : Gx} {M : Mp} {H : Hp} : ∀ {l : List (Bool × D)} {xs : List V}, RA Hs G M H l xs → l.length = xs.length
  | _, _, .nil => rfl
  | _, _, .pl _ t => by simp [t.length]
  | _, _, .ow _ _ t => by simp [t.length]
theorem setsX_len : ∀ {is : List Nat} {ds : List (Bool × D)} {r r' : Rho}, setsX is ds r = some r' → ds.length = is.length
  | [], [], _, _, _ => rfl
  | [], _ :: _, _, _, e => by simp [setsX] at e
  | _ :: _, [], _, _, e => by simp [setsX] at e
  | _ :: _, _ :: _, _, _, e => by
    simp only [setsX] at e
    simp [setsX_len e]
def parB (is : List Nat) (xs : List Xa) (ck : Ck) (st : Stmt) : Bool := match st with
  | .Assign [tg] v _ => (match tg, v, is with
    | .Tuple [.Name x _, .Name y _] _ _, .Tuple [u, w] _ _, [i, j] => decide (i ≠ j) && atB ck i x && atB ck j y && decide (ck.sc.names.lookup x = some .local) && decide (ck.sc.names.lookup y = some .local) && okX xs ck [u, w] && decide (swSt ck.sc tg v = some (some [x, y]))
    | .Tuple [.Name x _, .Name y _, .Name z _] _ _, .Tuple [u, w, q] _ _, [i, j, l] => decide (i ≠ j) && decide (i ≠ l) && decide (j ≠ l) && atB ck i x && atB ck j y && atB ck l z && decide (ck.sc.names.lookup x = some .local) && decide (ck.sc.names.lookup y = some .local) && decide (ck.sc.names.lookup z = some .local) && okX xs ck [u, w, q] && decide (swSt ck.sc tg v = some (some [x, y, z]))
    | _, _, _ => false)
  | _ => false
/-- a, b = e, f (two or three local names) -/
def Sm.par (is : List Nat) (xs : List Xa) : Sm where
  sem r h := (semX xs r h).st r fun ds h1 => ofP (setsX is ds r) h1
  ok := parB is xs
  need := needX xs
  snd {X G ck k Wx st} C hk h n := by
    unfold parB at h
    split at h
    · rename_i tg v p
      have fin : ∀ {M0 M M1 : Mp} {H0 H H1 : Hp} {r : Rho} {hh h1 : Hh} {σ : St} {Dn : Ends} {ds : List (Bool × D)} {vs : List V}, Sv G M0 H0 r hh M σ H → Ext M H M1 H1 → Sv G M0 H0 r h1 M1 σ H1 → RA H G M1 H1 ds vs → KO G Wx M0 H0 M1 H1 Dn (ofP (setsX is ds r) h1) → Dn.nx (setsV is vs σ) H1 ∧ vs.length = is.length := by
        intro M0 M M1 H0 H H1 r hh h1 σ Dn ds vs s e1 s1 ra k1
        cases e : setsX is ds r with
        | none => rw [e] at k1; exact k1.elim
        | some r' =>
          rw [e] at k1
          refine ⟨?_, by rw [← ra.length]; exact setsX_len e⟩
          refine k1 _ M1 H1 Keep.refl (s1.setsX ra s.ent.trk (fun v hv j f q => ?_) e)
          obtain ⟨a, rfl, ha⟩ := ra.ows v hv
          exact s.apart ha j f q
      split at h
      · simp only [Bool.and_eq_true, atB, decide_eq_true_eq] at h
        obtain ⟨⟨⟨⟨⟨⟨hij, hi⟩, hj⟩, hx⟩, hy⟩, ho⟩, hs⟩ := h
        refine PS.imp (ps_par C.calm C.nd (by rw [C.hN]; exact hi) (by rw [C.hN]; exact hj) hij (by rw [C.hsc]; exact hx) (by rw [C.hsc]; exact hy) (sndX xs C ho n) (swSt_ok C.hsc hk hs) rfl) fun Dn σ H ⟨M0, H0, r, hh, M, s, k⟩ => ⟨r, hh, M, s.rl, s.re, oneS C.gk s k fun ds vs h1 M1 H1 e1 s1 ra k1 => ?_⟩
        obtain ⟨q, hl⟩ := fin s e1 s1 ra k1
        match vs, hl with
        | [v, u], _ => exact ⟨v, u, rfl, q⟩
      · simp only [Bool.and_eq_true, atB, decide_eq_true_eq] at h
        obtain ⟨⟨⟨⟨⟨⟨⟨⟨⟨⟨hij, hil⟩, hjl⟩, hi⟩, hj⟩, hl⟩, hx⟩, hy⟩, hz⟩, ho⟩, hs⟩ := h
        refine PS.imp (ps_par3 C.calm C.nd (by rw [C.hN]; exact hi) (by rw [C.hN]; exact hj) (by rw [C.hN]; exact hl) hij hil hjl (by rw [C.hsc]; exact hx) (by rw [C.hsc]; exact hy) (by rw [C.hsc]; exact hz) (sndX xs C ho n) (swSt_ok C.hsc hk hs) rfl) fun Dn σ H ⟨M0, H0, r, hh, M, s, k⟩ => ⟨r, hh, M, s.rl, s.re, oneS C.gk s k fun ds vs h1 M1 H1 e1 s1 ra k1 => ?_⟩
        obtain ⟨q, hl⟩ := fin s e1 s1 ra k1
        match vs, hl with
        | [v, u, w], _ => exact ⟨v, u, w, rfl, q⟩
      · cases h
    · cases h
end Pf

set_option Elab.async false
set_option linter.all false
set_option maxRecDepth 100000
/-! ## Lists that are changed -/
namespace Pf
open PySem L2
theorem few_of : ∀ {es : List Expr}, es.all notStar = true → ∀ {p : Pos} {env : Env}, (backTo p (starEach es env)).all (fun x => !x.1) = true
  | [], _, _, _ => rfl
  | a :: es, h, p, env => by
    simp only [List.all_cons, Bool.and_eq_true] at h
    rw [star_cons h.1]
    have ih := few_of h.2 (p := p) (env := env)
    unfold backTo at ih ⊢
    simpa using ih
theorem base_of {a : Expr} {n : Str} {env : Env} (h : plainBase a = true) : attributeBase a n env (eval a env) = eval a env := by
  cases a <;> first | rfl | (simp [plainBase] at h)
/-- the call of a method: its receiver and arguments -/
def methB (m : Str) (o : Ck → Expr → Bool) (as : Ck → List Expr → Bool) (ck : Ck) (a : Expr) : Bool := match a with
  | .Call (.Attribute y n ap) (e :: es) [] p => n == m && o ck y && as ck (e :: es) && decide (es.length < 19) && plainBase y && (ap.endLine == p.line)
  | _ => false
theorem methB_some {m : Str} {o : Ck → Expr → Bool} {as : Ck → List Expr → Bool} {ck : Ck} {a : Expr} (h : methB m o as ck a = true) : ∃ y ap e es p, a = .Call (.Attribute y m ap) (e :: es) [] p ∧ o ck y = true ∧ as ck (e :: es) = true ∧ es.length < 19 ∧ plainBase y = true ∧ (ap.endLine == p.line) = true := by
  unfold methB at h
  split at h
  · simp only [Bool.and_eq_true, beq_iff_eq, decide_eq_true_eq] at h
    obtain ⟨⟨⟨⟨⟨rfl, h1⟩, h2⟩, h3⟩, h4⟩, h5⟩ := h
    exact ⟨_, _, _, _, _, rfl, h1, h2, h3, h4, by simpa using h5⟩
  · cases h
theorem few1 {e : Expr} {es : List Expr} {p : Pos} {env : Env} (hs : (e :: es).all notStar = true) (hl : es.length < 19) : ((backTo p (starEach (e :: es) env)).all (fun x => !x.1) && decide ((e :: es).length + ([] : List Keyword).length < 20)) = true := by
  rw [few_of hs]
  simp
  omega
/-- x.append(e), x a name that owns its list -/
def Sm.app (j : Nat) (x : Xp) : Sm where
  sem r h := match r[j]? with
    | some (.ow (.lst l)) => (x.sem r h).st r fun d h1 => if l.length < line then .nx (r.set j (.ow (.lst (l ++ [d])))) h1 else .no
    | _ => .no
  ok ck st := match st with
    | .Expr a _ => methB "append" (varB j) (okA [x]) ck a
    | _ => false
  need := x.need
  snd {X G ck k Wx st} C hk h n := by
    split at h
    · obtain ⟨y, ap, e, es, p, rfl, hy, hA, hl, hb, hp⟩ := methB_some h
      have hst := okA_star hA
      have hst' := hst
      simp only [List.all_cons, Bool.and_eq_true] at hst'
      refine PS.imp (ps_expr (pe_bm PySem.F.plainAttrs_list PySem.F.slot_list_append PySem.F.type_list_append mt_append (pe_varB C hy) (sndA [x] C hA ⟨n, trivial⟩) (base_of hb) (by
        rw [few_of hst]
        simp [keywordEach, backToKw]
        omega) hp (star_cons hst'.1 _) (stars_of hst'.2)) rfl) fun Dn σ H ⟨M0, H0, r, hh, M, s, k⟩ => ?_
      dsimp only at k
      split at k
      · rename_i l q
        obtain ⟨a, h1, ro, na, nf⟩ := s.re.ow j _ q
        cases ro with
        | lst ha rv =>
          refine ⟨_, h1, .inl ⟨rfl, _, SqL.of ha⟩, r, hh, M, s.rl, s.re, ?_⟩
          have k' : KO G Wx M0 H0 M H Dn ((semA [x] r hh).st r fun ds h1 => match ds with
            | [d] => if l.length < line then .nx (r.set j (.ow (.lst (l ++ [d])))) h1 else .no
            | _ => .no) := by
            simp only [semA]
            cases q2 : x.sem r hh <;> rw [q2] at k <;> exact k
          refine oneS C.gk s k' fun ds vs h2 M1 H1 e1 s1 rvs k1 => ?_
          split at k1
          · rename_i d
            split at k1
            · rename_i hlen
              cases rvs with
              | cons rd t =>
                cases t
                obtain ⟨b, hb1, ro1, na1, nf1⟩ := s1.re.ow j _ q
                rw [h1] at hb1; cases hb1
                cases ro1 with
                | lst ha1 rv1 =>
                  refine ⟨a, _, _, rfl, rfl, ha1, by rw [← rv1.length, ← line_eq]; exact hlen, ?_⟩
                  obtain ⟨kp, s2⟩ := s1.write C.gk (o := .lst _) q h1 (.lst upd_same ((rv1.append (.cons rd .nil)).keep C.gk (Keep.poke nf1)))
                  exact k1 σ M1 _ kp s2
            · exact k1.elim
          · exact k1.elim
      · exact k.elim
    · cases h
/-- x.append(e), x a list of the heap -/
def Xp.app (o x : Xp) : Xp where
  sem r h := (o.sem r h).bind fun d h1 => match d with
    | .ref i => (match h1[i]? with
      | some (.lst _) => (x.sem r h1).bind fun e h2 => (match h2[i]? with
        | some (.lst l) => if l.length < line then .ok .non (h2.set i (.lst (l ++ [e]))) else .no
        | _ => .no)
      | _ => .no)
    | _ => .no
  ok := methB "append" o.ok (okA [x])
  need t := o.need t ∧ x.need t
  star _ a h := by obtain ⟨y, ap, e, es, p, rfl, _⟩ := methB_some h; rfl
  snd {X G ck k Wx a} C h n := by
    obtain ⟨y, ap, e, es, p, rfl, hy, hA, hl, hb, hp⟩ := methB_some h
    have hst := okA_star hA
    have hst' := hst
    simp only [List.all_cons, Bool.and_eq_true] at hst'
    refine PE.imp (pe_bm PySem.F.plainAttrs_list PySem.F.slot_list_append PySem.F.type_list_append mt_append (o.snd C hy n.1) (sndA [x] C hA ⟨n.2, trivial⟩) (base_of hb) (by
      rw [few_of hst]
      simp [keywordEach, backToKw]
      omega) hp (star_cons hst'.1 _) (stars_of hst'.2)) fun σ H Qv ⟨r, hh, M, rl, re, k⟩ => ⟨r, hh, M, rl, re, one k fun d v h1 M1 H1 e1 r1 b1 k1 => ?_⟩
    try dsimp only at k1
    split at k1
    · rename_i i
      split at k1
      · rename_i l q
        cases b1 with
        | ref hb1 =>
          cases r1.look q hb1 with
          | lst ha rv =>
            refine ⟨.inl ⟨rfl, _, SqL.of ha⟩, r, h1, M1, r1, re.ext C.gk rl e1, ?_⟩
            have k' : KG (RV G) G Wx σ M1 H1 Qv ((semA [x] r h1).bind fun ds h2 => match ds with
              | [e] => (match h2[i]? with
                | some (.lst l) => if l.length < line then .ok .non (h2.set i (.lst (l ++ [e]))) else .no
                | _ => .no)
              | _ => .no) := by
              simp only [semA]
              cases q2 : x.sem r h1 <;> rw [q2] at k1 <;> exact k1
            refine one k' fun ds vs h2 M2 H2 e2 r2 rvs k2 => ?_
            split at k2
            · rename_i e
              split at k2
              · rename_i l2 q2
                split at k2
                · rename_i hlen
                  cases rvs with
                  | cons rd t =>
                    cases t
                    have hb2 := e2.get hb1
                    cases r2.look q2 hb2 with
                    | lst ha2 rv2 =>
                      refine ⟨_, _, _, rfl, rfl, ha2, by rw [← rv2.length, ← line_eq]; exact hlen, ?_⟩
                      have hm : _ ∈ M2.bs := List.mem_iff_getElem?.mpr ⟨i, hb2⟩
                      exact k2 _ M2 _ (Ext.chg hm) (r2.chg C.gk hb2 (.lst upd_same ((rv2.append (.cons rd .nil)).keep C.gk (Keep.chg r2 hm)))) .non
                · exact k2.elim
              · exact k2.elim
            · exact k2.elim
      · exact k1.elim
    · exact k1.elim
/-! x[i] = e -/
def setB (o i e : Ck → Expr → Bool) (ck : Ck) (st : Stmt) : Bool := match st with
  | .Assign [.Subscript a b _] v _ => o ck a && i ck b && e ck v && notComp v && notSlice b
  | _ => false
theorem setB_some {o i e : Ck → Expr → Bool} {ck : Ck} {st : Stmt} (h : setB o i e ck st = true) : ∃ a b p v q, st = .Assign [.Subscript a b p] v q ∧ o ck a = true ∧ i ck b = true ∧ e ck v = true ∧ notComp v = true ∧ notSlice b = true := by
  unfold setB at h
  split at h
  · simp only [Bool.and_eq_true] at h
    exact ⟨_, _, _, _, _, rfl, h.1.1.1.1, h.1.1.1.2, h.1.1.2, h.1.2, h.2⟩
  · cases h
theorem ps_setI {X : Cx} {a b c : Expr} {p q : Pos} {ta tb tc : TE} {rs : V → V → V → Hp → (Hp → Prop) → Prop} (hc : notComp c = true) (hb : notSlice b = true) (PSt : PSet X rs) (h1 : PE X a ta) (h2 : PE X b tb) (h3 : PE X c tc) : PS X (.Assign [.Subscript a b p] c q) (tAsg tc (fun v σ H Qs => ta σ H fun o H1 => tb σ H1 fun i H2 => rs o i v H2 fun H' => Qs σ H')) := by
  refine ps_asg h3 (pg_sub h1 h2 PSt (by intro v; cases b <;> first | rfl | (simp [notSlice] at hb))) ?_ ?_ rfl
  · cases c <;> first | rfl | (simp [notComp] at hc)
  · cases c <;> rfl
def ixNat (n : Nat) (k : Int) : Option Nat := if 0 ≤ k ∧ k < n then some k.toNat else none
theorem ixNat_ok {n j : Nat} {k : Int} (h : ixNat n k = some j) : ixN n k = some j := by
  unfold ixNat at h
  split at h
  · rename_i hk
    cases h
    unfold ixN
    rw [if_pos hk.1, if_pos hk.2]
  · cases h
/-- x[i] = e, x a name that owns its list -/
def Sm.setO (j : Nat) (i e : Xp) : Sm where
  sem r h := (e.sem r h).st r fun d h1 => match r[j]? with
    | some (.ow (.lst l)) => (i.sem r h1).st r fun k h2 => (match k with
      | .int k => (match ixNat l.length k with
        | some m => .nx (r.set j (.ow (.lst (l.set m d)))) h2
        | none => .no)
      | _ => .no)
    | _ => .no
  ok := setB (varB j) i.ok e.ok
  need t := i.need t ∧ e.need t
  snd {X G ck k Wx st} C hk h n := by
    obtain ⟨a, b, p, v, q, rfl, h1, h2, h3, h4, h5⟩ := setB_some h
    refine PS.imp (ps_setI h4 h5 set_list (pe_varB C h1) (i.snd C h2 n.1) (e.snd C h3 n.2)) fun Dn σ H ⟨M0, H0, r, hh, M, s, k⟩ => ⟨r, hh, M, s.rl, s.re, oneS C.gk s k fun d v h1 M1 H1 e1 s1 rd k1 => ?_⟩
    try dsimp only at k1
    split at k1
    · rename_i l q
      obtain ⟨a, ha, _⟩ := s1.re.ow j _ q
      refine ⟨_, ha, r, h1, M1, s1.rl, s1.re, oneS C.gk s1 k1 fun kk w h2 M2 H2 e2 s2 rk k2 => ?_⟩
      try dsimp only at k2
      split at k2
      · split at k2
        · rename_i m hm
          cases rk
          obtain ⟨b, hb, ro, na, nf⟩ := s2.re.ow j _ q
          rw [ha] at hb; cases hb
          cases ro with
          | lst h6 rv =>
            refine ⟨_, _, _, _, rfl, rfl, h6, by rw [← rv.length]; exact ixNat_ok hm, ?_⟩
            obtain ⟨kp, s3⟩ := s2.write C.gk (o := .lst _) q ha (.lst upd_same ((rv.set (rd.ext C.gk s1.rl e2) m).keep C.gk (Keep.poke nf)))
            exact k2 σ M2 _ kp s3
        · exact k2.elim
      · exact k2.elim
    · exact k1.elim
/-- x[i] = e, x a list of the heap -/
def Sm.setH (o i e : Xp) : Sm where
  sem r h := (e.sem r h).st r fun d h1 => (o.sem r h1).st r fun x h2 => (i.sem r h2).st r fun k h3 => match x, k with
    | .ref p, .int k => (match h3[p]? with
      | some (.lst l) => (match ixNat l.length k with
        | some m => .nx r (h3.set p (.lst (l.set m d)))
        | none => .no)
      | _ => .no)
    | _, _ => .no
  ok := setB o.ok i.ok e.ok
  need t := o.need t ∧ i.need t ∧ e.need t
  snd {X G ck k Wx st} C hk h n := by
    obtain ⟨a, b, p, v, q, rfl, h1, h2, h3, h4, h5⟩ := setB_some h
    refine PS.imp (ps_setI h4 h5 set_list (o.snd C h1 n.1) (i.snd C h2 n.2.1) (e.snd C h3 n.2.2)) fun Dn σ H ⟨M0, H0, r, hh, M, s, k⟩ => ⟨r, hh, M, s.rl, s.re, oneS C.gk s k fun d v h1 M1 H1 e1 s1 rd k1 => ⟨r, h1, M1, s1.rl, s1.re, oneS C.gk s1 k1 fun x u h2 M2 H2 e2 s2 rx k2 => ⟨r, h2, M2, s2.rl, s2.re, oneS C.gk s2 k2 fun kk w h3 M3 H3 e3 s3 rk k3 => ?_⟩⟩⟩
    try dsimp only at k3
    split at k3
    · split at k3
      · rename_i pp _ l q
        split at k3
        · rename_i m hm
          cases rk
          cases rx with
          | ref hb =>
            have hb3 := e3.get hb
            cases s3.rl.look q hb3 with
            | lst h6 rv =>
              refine ⟨_, _, _, _, rfl, rfl, h6, by rw [← rv.length]; exact ixNat_ok hm, ?_⟩
              have hm' : _ ∈ M3.bs := List.mem_iff_getElem?.mpr ⟨_, hb3⟩
              have rl3 := s3.rl.chg C.gk (o := .lst _) hb3 (.lst upd_same ((rv.set ((rd.ext C.gk s1.rl e2).ext C.gk s2.rl e3) m).keep C.gk (Keep.chg s3.rl hm')))
              exact k3 σ M3 _ (Keep.chg s3.rl hm') (s3.step C.gk (Ext.chg hm') rl3)
        · exact k3.elim
      · exact k3.elim
    · exact k3.elim
end Pf

set_option Elab.async false
set_option linter.all false
set_option maxRecDepth 100000
/-! ## Defs: what they compute, with the heap, without it, with one thing of it -/
namespace Pf
open PySem L2
def startR (n : Nat) (ds : List D) : Rho := ds.map Sl.pl ++ List.replicate (n - ds.length) Sl.un
def outR : Out → Res D
  | .nx _ h => .ok .non h
  | .rt d h => .ok d h
  | .exc c fs _ h => .exc c fs h
  | _ => .no
/-- what a def of n names and m parameters computes -/
def fnF (n m : Nat) (body : List Si) : Fsem := fun ds h => if ds.length = m then outR (semSs body (startR n ds) h) else .no
theorem RE.start {G : Gx} {M : Mp} {H : Hp} {N : List Str} {ds : List D} {vs : List V} (rd : RVs G M H ds vs) : RE G M H (startR N.length ds) (L2.start N vs) := by
  have pl : ∀ (i : Nat) (s : Sl), (startR N.length ds)[i]? = some s → s ≠ .un → ∃ d, s = .pl d ∧ ds[i]? = some d := by
    intro i s e hs
    unfold startR at e
    by_cases hi : i < ds.length
    · rw [List.getElem?_append_left (by simpa using hi), List.getElem?_map] at e
      cases q : ds[i]? with
      | none => rw [q] at e; cases e
      | some d =>
        rw [q] at e
        exact ⟨d, by simpa using e.symm, rfl⟩
    · rw [List.getElem?_append_right (by simpa using hi), List.getElem?_replicate] at e
      split at e <;> cases e
      exact absurd rfl hs
  refine ⟨?_, fun i d e => ?_, fun i d e => ?_, fun i j d e a q1 q2 s1 s2 => ?_⟩
  · unfold startR L2.start
    simp [rd.length]
  · obtain ⟨d', e1, e2⟩ := pl i _ e (by simp)
    cases e1
    obtain ⟨v, h1, h2⟩ := rd.get e2
    refine ⟨v, ?_, h2⟩
    have hi : i < ds.length := (List.getElem?_eq_some_iff.mp e2).1
    unfold L2.start
    rw [List.getElem?_append_left (by rw [List.length_map, ← rd.length]; exact hi), List.getElem?_map, h1]
    rfl
  · obtain ⟨d', e1, e2⟩ := pl i _ e (by simp)
    cases e1
  · obtain ⟨d', e1, e2⟩ := pl i _ q1 (by simp)
    cases e1
section
variable {P : Program} {w : World} {G : Gx} {base : Heap} {k : Nat} {f : Str}
theorem fnok_L (gk : Gk G) {qual : Str} {st : Stmt} {a : Addr} {fd : FuncData} {N ps : List Str} {ss : List Si} (F : Fun G.K f qual st a fd) (hsc : FnScope N ps (defScope st)) (ok : okSs ss ⟨N, defScope st, false⟩ (defBody st) = true) (nd : needSs ss ⟨P, w, G, base, k⟩) : FnOk P w G.K G.mg base (CX P w) (k + 3) a fd ps (lift G (fnF N.length ps.length ss)) := by
  refine F.okX hsc (fun vs H Q E ⟨ds, h, M, rl, rd, kq⟩ => ?_) fun cdv A outer s H vs Qv E hr ⟨ds, h, M, rl, rd, kq⟩ => ?_
  · unfold fnF at kq
    split at kq
    · rename_i e; rw [← rd.length]; exact e
    · exact kq.elim
  · have C : Cok (cxOf (L2.CX P w) P w G.K G.mg base N qual (defScope st) a cdv A outer s H E) G ⟨N, defScope st, false⟩ k (fun cls d _ H' => E cls d H') :=
      ⟨rfl, rfl, rfl, rfl, rfl, hsc.nd, hr, takes_of rfl rfl rfl rfl, passes_of rfl, fun _ _ => rfl, gk⟩
    refine ⟨_, sndSs ss C hsc.kind ok nd, M, H, startR N.length ds, h, M, ⟨Ext.refl, rl, RE.start rd, fun i d a q1 q2 => ?_⟩, ?_⟩
    · have := (RE.start (N := N) rd).ow i d q1
      exfalso
      unfold startR at q1
      by_cases hi : i < ds.length
      · rw [List.getElem?_append_left (by simpa using hi), List.getElem?_map] at q1
        cases q : ds[i]? with
        | none => rw [q] at q1; cases q1
        | some d => rw [q] at q1; cases q1
      · rw [List.getElem?_append_right (by simpa using hi), List.getElem?_replicate] at q1
        split at q1 <;> cases q1
    · unfold fnF at kq
      split at kq
      · cases q : semSs ss (startR N.length ds) h with
        | nx r' h' => rw [q] at kq; exact fun σ' M' H' _ s' => kq _ M' H' s'.ent s'.rl .non
        | rt d h' => rw [q] at kq; exact fun v M' H' e rl' rv => kq v M' H' e rl' rv
        | exc c fs r' h' => rw [q] at kq; exact fun cls dx σ' M' H' _ s' rx => kq cls dx M' H' s'.ent s'.rl rx
        | bk r' h' => rw [q] at kq; exact kq.elim
        | ct r' h' => rw [q] at kq; exact kq.elim
        | no => rw [q] at kq; exact kq.elim
      · exact kq.elim
theorem FnL.mono {t : Tb} {F : Fsem} {j : Nat} (h : FnL ⟨t.P, t.w, t.G, t.base, j⟩ f F) (hj : j ≤ t.k) : FnL t f F := by
  obtain ⟨a, fd, ps, h1, h2, h3, h4⟩ := h
  exact ⟨a, fd, ps, h1, h2, h3, h4.mono hj⟩
end

/-! ### data without a ref -/
mutual
def nr : D → Bool
  | .non => true | .bl _ => true | .int _ => true | .str _ => true | .ty _ => true
  | .tup l => nrs l | .lst l => nrs l | .lsc l => nrs l
  | .dct l => nrp l | .dcn l => nrp l | .set l => nrs l
  | .ins _ l => nrf l
  | .ref _ => false | .gl _ => true
  | .clo _ l => nrs l | .exc _ l => nrf l
def nrs : List D → Bool
  | [] => true
  | d :: l => nr d && nrs l
def nrp : List (D × D) → Bool
  | [] => true
  | (a, b) :: l => nr a && nr b && nrp l
def nrf : List (Nat × D) → Bool
  | [] => true
  | (_, b) :: l => nr b && nrf l
end
section
variable {G : Gx} {F : Addr → Prop} {b1 b2 : List Addr} {H : Hp}
mutual
theorem RV.nr (hc : True) : ∀ {d : D} {v : V}, nr d = true → RV G ⟨F, b1⟩ H d v → RV G ⟨F, b2⟩ H d v
  | _, _, _, .non => .non
  | _, _, _, .bl b => .bl b
  | _, _, _, .int i => .int i
  | _, _, _, .str x => .str x
  | _, _, _, .ty n => .ty n
  | _, _, e, .tup h r => .tup h (RVs.nr hc (by simpa [Pf.nr] using e) r)
  | _, _, e, .scr h r => .scr h (RVs.nr hc (by simpa [Pf.nr] using e) r)
  | _, _, e, .lst h r => .lst h (RO.nr hc e r)
  | _, _, e, .dct h q r => .dct h q (RKs.nr hc (by simpa [Pf.nr] using e) r)
  | _, _, e, .dcn h r => .dcn h (RO.nr hc e r)
  | _, _, e, .set h r => .set h (RO.nr hc e r)
  | _, _, e, .ins h r => .ins h (RO.nr hc e r)
  | _, _, e, .ref h => by simp [Pf.nr] at e
  | _, _, _, .gl h => .gl h
  | _, _, e, .clo h r => .clo h (RVs.nr hc (by simpa [Pf.nr] using e) r)
  | _, _, e, .exc m h d n r => .exc m h d n (RFs.nr hc (by simpa [Pf.nr] using e) r)
theorem RVs.nr (hc : True) : ∀ {l : List D} {xs : List V}, nrs l = true → RVs G ⟨F, b1⟩ H l xs → RVs G ⟨F, b2⟩ H l xs
  | _, _, _, .nil => .nil
  | _, _, e, .cons h t => by
    simp only [nrs, Bool.and_eq_true] at e
    exact .cons (RV.nr hc e.1 h) (RVs.nr hc e.2 t)
theorem RFs.nr (hc : True) : ∀ {l : List (Nat × D)} {xs : List (Str × V)}, nrf l = true → RFs G ⟨F, b1⟩ H l xs → RFs G ⟨F, b2⟩ H l xs
  | _, _, _, .nil => .nil
  | _, _, e, .cons n h t => by
    simp only [nrf, Bool.and_eq_true] at e
    exact .cons n (RV.nr hc e.1 h) (RFs.nr hc e.2 t)
theorem RPs.nr (hc : True) : ∀ {l : List (D × D)} {xs : List DictEntry}, nrp l = true → RPs G ⟨F, b1⟩ H l xs → RPs G ⟨F, b2⟩ H l xs
  | _, _, _, .nil => .nil
  | _, _, e, .cons k q d s g t => by
    simp only [nrp, Bool.and_eq_true] at e
    exact .cons (RV.nr hc e.1.1 k) q (RV.nr hc e.1.2 d) s g (RPs.nr hc e.2 t)
theorem RKs.nr (hc : True) : ∀ {l : List (D × D)} {xs : List (Key × V)}, nrp l = true → RKs G ⟨F, b1⟩ H l xs → RKs G ⟨F, b2⟩ H l xs
  | _, _, _, .nil => .nil
  | _, _, e, .int d t => by
    simp only [nrp, Bool.and_eq_true] at e
    exact .int (RV.nr hc e.1.2 d) (RKs.nr hc e.2 t)
  | _, _, e, .str d t => by
    simp only [nrp, Bool.and_eq_true] at e
    exact .str (RV.nr hc e.1.2 d) (RKs.nr hc e.2 t)
theorem RSs.nr (hc : True) : ∀ {l : List D} {xs : List (Int × Value)}, nrs l = true → RSs G ⟨F, b1⟩ H l xs → RSs G ⟨F, b2⟩ H l xs
  | _, _, _, .nil => .nil
  | _, _, e, .cons k q g t => by
    simp only [nrs, Bool.and_eq_true] at e
    exact .cons (RV.nr hc e.1 k) q g (RSs.nr hc e.2 t)
theorem RO.nr (hc : True) : ∀ {a : Addr} {o : D}, nr o = true → RO G ⟨F, b1⟩ H a o → RO G ⟨F, b2⟩ H a o
  | _, _, e, .lst h r => .lst h (RVs.nr hc (by simpa [Pf.nr] using e) r)
  | _, _, e, .dct h r => .dct h (RKs.nr hc (by simpa [Pf.nr] using e) r)
  | _, _, e, .dcn h m n r => .dcn h m n (RPs.nr hc (by simpa [Pf.nr] using e) r)
  | _, _, e, .set h r => .set h (RSs.nr hc (by simpa [Pf.nr] using e) r)
  | _, _, e, .ins i m h r => .ins i m h (RFs.nr hc (by simpa [Pf.nr] using e) r)
  | _, _, e, .sl0 i m h => .sl0 i m h
  | _, _, e, .sl1 i m h f x o r => .sl1 i m h f x o (RFs.nr hc (by simpa [Pf.nr] using e) r)
end
end
/-- what a def computes without the heap: no ref goes in, none comes out -/
def pureOf (F : Fsem) : Fsem := fun ds h => if nrs ds then (match F ds [] with
  | .ok d _ => if nr d then .ok d h else .no
  | .exc c fs _ => if nrf fs then .exc c fs h else .no
  | .no => .no) else .no
/-- the state as it was, the heap's things as they were -/
theorem sub_back {G : Gx} (gk : Gk G) {h h1 : Hh} {M M1 : Mp} {H H1 : Hp} {b : List Addr} (rl : RL G h M H) (hb : ∀ a ∈ b, a ∈ M.bs) (e : Ext ⟨M.F, b⟩ H M1 H1) (r1 : RL G h1 M1 H1) : Ext M H ⟨M1.F, M.bs⟩ H1 ∧ Keep M H ⟨M1.F, M.bs⟩ H1 ∧ ∀ a ∈ M.bs, ¬ M1.F a := by
  have off : ∀ a ∈ M.bs, ¬ M1.F a := fun a ha z => by
    obtain ⟨u, q, y⟩ := rl.tracked ha
    rcases e.newF a z with w | w | w | ⟨x, w⟩
    · exact rl.off a ha w
    · exact r1.off a (e.mem w) z
    · rw [q] at w; cases w
    · rw [q] at w; cases w.1; exact w.2 y
  have ex : Ext M H ⟨M1.F, M.bs⟩ H1 := ⟨fun c o hc n y => e.keep c o hc (fun z => n (hb c z)) y, e.trk, e.fz, ⟨[], by simp, by simp⟩, fun c z => by
    rcases e.newF c z with w | w | w | w
    · exact .inl w
    · exact .inr (.inl (hb c w))
    · exact .inr (.inr (.inl w))
    · exact .inr (.inr (.inr w))⟩
  exact ⟨ex, ex.kp rl, off⟩
theorem RX.nr {G : Gx} {F : Addr → Prop} {b1 b2 : List Addr} {H : Hp} {c : Nat} {fs : List (Nat × D)} {cls : Value} {dx : Option Addr} (n : nrf fs = true) (x : RX G ⟨F, b1⟩ H c fs cls dx) : RX G ⟨F, b2⟩ H c fs cls dx := by
  obtain ⟨C, h1, h2, h3⟩ := x
  refine ⟨C, h1, h2, ?_⟩
  cases dx with
  | none => exact h3
  | some d =>
    obtain ⟨h4, vs, h5, h6⟩ := h3
    exact ⟨h4, vs, h5, RFs.nr trivial n h6⟩
theorem lift_pure {G : Gx} (gk : Gk G) {F : Fsem} {vs : List V} {H : Hp} {Q : VK} {E : XK} (x : lift G (pureOf F) vs H Q E) : lift G F vs H Q E := by
  obtain ⟨ds, h, M, rl, rd, k⟩ := x
  unfold pureOf at k
  split at k
  · rename_i hn
    refine ⟨ds, [], ⟨M.F, []⟩, ⟨rfl, fun i o e => by simp at e, by simp, fun a ha => by simp at ha, rl.fz, rl.tb⟩, RVs.nr (b1 := M.bs) trivial hn rd, ?_⟩
    have back : ∀ {M1 : Mp} {H1 : Hp} {h1 : Hh}, Ext ⟨M.F, []⟩ H M1 H1 → RL G h1 M1 H1 → Ext M H ⟨M1.F, M.bs⟩ H1 ∧ RL G h ⟨M1.F, M.bs⟩ H1 := by
      intro M1 H1 h1 e r1
      obtain ⟨e2, kp, off⟩ := sub_back gk rl (fun a ha => by simp at ha) e r1
      refine ⟨e2, rl.len, fun i o q => ?_, rl.nd, off, r1.fz, r1.tb⟩
      obtain ⟨a, ha, ro⟩ := rl.at_ i o q
      obtain ⟨u, hu, hy⟩ := ro.some
      exact ⟨a, ha, ro.keep gk kp fun w z => e.keep a w z (by simp) (by rw [hu] at z; cases z; exact hy)⟩
    cases q : F ds [] with
    | no => rw [q] at k; exact k
    | ok d h1 =>
      rw [q] at k
      dsimp only at k
      split at k
      · rename_i hd
        intro v M1 H1 e r1 rv
        obtain ⟨e2, r2⟩ := back e r1
        exact k v _ H1 e2 r2 (RV.nr (b1 := M1.bs) trivial hd rv)
      · exact k.elim
    | exc c fs h1 =>
      rw [q] at k
      dsimp only at k
      split at k
      · rename_i hd
        intro cls dx M1 H1 e r1 rx
        obtain ⟨e2, r2⟩ := back e r1
        exact k cls dx _ H1 e2 r2 (RX.nr (b1 := M1.bs) hd rx)
      · exact k.elim
  · exact k.elim
/-- what a def computes that gets one thing of the heap: no other ref goes in, none comes out -/
def rowOf (F : Fsem) : Fsem := fun ds h => match ds with
  | .ref i :: ds => (match h[i]? with
    | some o => if nr o && nrs ds then (match F (.ref 0 :: ds) [o] with
      | .ok d (o' :: _) => if nr d && nr o' then .ok d (h.set i o') else .no
      | .exc c fs (o' :: _) => if nrf fs && nr o' then .exc c fs (h.set i o') else .no
      | _ => .no) else .no
    | none => .no)
  | _ => .no
theorem lift_row {G : Gx} (gk : Gk G) {F : Fsem} {vs : List V} {H : Hp} {Q : VK} {E : XK} (x : lift G (rowOf F) vs H Q E) : lift G F vs H Q E := by
  obtain ⟨ds, h, M, rl, rd, k⟩ := x
  unfold rowOf at k
  split at k
  · rename_i i ds
    split at k
    · rename_i o ho
      split at k
      · rename_i hn
        simp only [Bool.and_eq_true] at hn
        cases rd with
        | cons r1 rds =>
          cases r1 with
          | ref hb =>
            rename_i us a
            have hm : a ∈ M.bs := List.mem_iff_getElem?.mpr ⟨i, hb⟩
            have hsub : ∀ b ∈ [a], b ∈ M.bs := fun b z => by simp at z; subst z; exact hm
            have ro := rl.look ho hb
            have ro' : RO G ⟨M.F, [a]⟩ H a o := RO.nr (b1 := M.bs) trivial hn.1 ro
            refine ⟨.ref 0 :: ds, [o], ⟨M.F, [a]⟩, ⟨rfl, fun j u q => ?_, by simp, fun b z => rl.off b (hsub b z), rl.fz, rl.tb⟩, .cons (.ref rfl) (RVs.nr (b1 := M.bs) trivial hn.2 rds), ?_⟩
            · cases j with
              | zero => simp at q; subst q; exact ⟨a, rfl, ro'⟩
              | succ j => simp at q
            have back : ∀ {M1 : Mp} {H1 : Hp} {o' : D} {hs : Hh}, Ext ⟨M.F, [a]⟩ H M1 H1 → RL G (o' :: hs) M1 H1 → Pf.nr o' = true → Ext M H ⟨M1.F, M.bs⟩ H1 ∧ RL G (h.set i o') ⟨M1.F, M.bs⟩ H1 := by
              intro M1 H1 o' hs e r1 no
              obtain ⟨e2, kp, off⟩ := sub_back gk rl hsub e r1
              refine ⟨e2, by simp [rl.len], fun j u q => ?_, rl.nd, off, r1.fz, r1.tb⟩
              have hi : i < h.length := (List.getElem?_eq_some_iff.mp ho).1
              by_cases z : i = j
              · subst z
                rw [List.getElem?_set_self hi] at q
                cases q
                have h0 : M1.bs[0]? = some a := e.get (i := 0) rfl
                exact ⟨a, hb, RO.nr (b1 := M1.bs) trivial no (r1.look (i := 0) rfl h0)⟩
              · rw [List.getElem?_set_ne z] at q
                obtain ⟨b, hb', ro2⟩ := rl.at_ j u q
                obtain ⟨u', hu, hy⟩ := ro2.some
                have hne : b ∉ [a] := fun w => by
                  simp at w
                  subst w
                  have g1 := List.getElem?_eq_some_iff.mp hb
                  have g2 := List.getElem?_eq_some_iff.mp hb'
                  exact z ((List.getElem_inj rl.nd (h₀ := g1.1) (h₁ := g2.1)).mp (g1.2.trans g2.2.symm))
                exact ⟨b, hb', ro2.keep gk kp fun w z => e.keep b w z hne (by rw [hu] at z; cases z; exact hy)⟩
            split at k
            · rename_i d o1 hs q
              rw [q]
              split at k
              · rename_i hd
                simp only [Bool.and_eq_true] at hd
                intro v M1 H1 e r1 rv
                obtain ⟨e2, r2⟩ := back e r1 hd.2
                exact k v _ H1 e2 r2 (RV.nr (b1 := M1.bs) trivial hd.1 rv)
              · exact k.elim
            · rename_i c fs o1 hs q
              rw [q]
              split at k
              · rename_i hd
                simp only [Bool.and_eq_true] at hd
                intro cls dx M1 H1 e r1 rx
                obtain ⟨e2, r2⟩ := back e r1 hd.2
                exact k cls dx _ H1 e2 r2 (RX.nr (b1 := M1.bs) hd.1 rx)
              · exact k.elim
            · exact k.elim
      · exact k.elim
    · exact k.elim
  · exact k.elim
/-- a def of the text, as the head's facts tell it -/
structure DefAt (K : PySem.W.Frag) (mg : Str → Option Value) (f : Str) (st : Stmt) : Prop where
  ex : ∃ (a : Addr) (fd : FuncData), mg f = some (.ref a) ∧ Fun K f f st a fd
theorem DefAt.mk' {K : PySem.W.Frag} {h : Heap} {mg : Str → Option Value} {f : Str} {st : Stmt} {a : Addr} {oc : Value} {od an : Option Addr} {osl : Array (Option Value)} {kV doc pm cdv ct : Value} (X : K.In h) (G : h.Ns mainGlobals mg)
    (n : PySem.W.nsIn K mainGlobals f = some (some (.ref a))) (l : K.lookup a = some ⟨oc, od, .func (PySem.W.fnOf f f (defArgs st) (defBody st) (defScope st) .none kV doc pm an cdv ct), osl⟩) (c : PySem.W.codeIn K cdv f = true) (k : PySem.W.keepIn K (.ref a) = true) : DefAt K mg f st :=
  ⟨a, _, PySem.W.mg_of X G n, fun_mk l c k⟩
section
variable {P : Program} {w : World} {G : Gx} {base : Heap} {k : Nat} {f : Str}
theorem DefAt.fn (gk : Gk G) {st : Stmt} {N ps : List Str} {ss : List Si} (F : DefAt G.K G.mg f st) (hsc : FnScope N ps (defScope st)) (ok : okSs ss ⟨N, defScope st, false⟩ (defBody st) = true) (nd : needSs ss ⟨P, w, G, base, k⟩)
    (hb : ∀ (kV doc pm : Value) (an : Option Addr) (cdv ct : Value) (us : List Value), us.length = ps.length → bindArgs (PySem.W.fnOf f f (defArgs st) (defBody st) (defScope st) .none kV doc pm an cdv ct) ⟨us, []⟩ = pure (ps.zip us)) : FnL ⟨P, w, G, base, k + 3⟩ f (fnF N.length ps.length ss) := by
  obtain ⟨a, fd, hm, F⟩ := F.ex
  exact ⟨a, fd, ps, hm, F.kp, F.binds hb, fnok_L gk F hsc ok nd⟩
theorem FnL.pure (gk : Gk G) {F : Fsem} (h : FnL ⟨P, w, G, base, k⟩ f F) : FnL ⟨P, w, G, base, k⟩ f (pureOf F) := by
  obtain ⟨a, fd, ps, h1, h2, h3, h4⟩ := h
  exact ⟨a, fd, ps, h1, h2, h3, h4.imp fun vs H Q E x => lift_pure gk x⟩
theorem FnL.row (gk : Gk G) {F : Fsem} (h : FnL ⟨P, w, G, base, k⟩ f F) : FnL ⟨P, w, G, base, k⟩ f (rowOf F) := by
  obtain ⟨a, fd, ps, h1, h2, h3, h4⟩ := h
  exact ⟨a, fd, ps, h1, h2, h3, h4.imp fun vs H Q E x => lift_row gk x⟩
/-- a plainer account of what a def computes -/
theorem FnL.by {F F' : Fsem} (h : FnL ⟨P, w, G, base, k⟩ f F) (e : ∀ ds h, F' ds h ≠ .no → F ds h = F' ds h) : FnL ⟨P, w, G, base, k⟩ f F' := by
  obtain ⟨a, fd, ps, h1, h2, h3, h4⟩ := h
  refine ⟨a, fd, ps, h1, h2, h3, h4.imp fun vs H Q E ⟨ds, hh, M, rl, rd, kq⟩ => ⟨ds, hh, M, rl, rd, ?_⟩⟩
  by_cases z : F' ds hh = .no
  · rw [z] at kq; exact kq.elim
  · rw [e ds hh z]; exact kq
theorem gv_int {t : Tb} {x : Str} {i : Int} {tk : Tok} (h : t.G.mg x = some (.int i tk)) : GvL t x (.int i) := ⟨_, .int i, h, ⟨tk, rfl⟩, fun _ _ => .int i⟩
theorem gv_str {t : Tb} {x : Str} {y : List Nat} {tk : Tok} (h : t.G.mg x = some (.str (tS y) tk)) : GvL t x (.str y) := ⟨_, .str (tS y), h, ⟨tk, rfl⟩, fun _ _ => .str y⟩
end
/-! ### the end of a law -/
def spLaw (n : Nat) (K : PySem.W.Frag) : L2.Sp := fun vs H Q _ => ∃ (a : Addr) (ns : List Int), vs = [.ref a] ∧ SqL K H a (ns.map V.int) ∧ Only H ∧ ns.length ≤ n ∧ ∀ H', Q (.bl true) H'
theorem spLaw_lift {n : Nat} {G : Gx} {F : Fsem} (hT : G.T = []) (law : ∀ ns : List Int, ns.length ≤ n → ∃ h', F [.lsc (ns.map D.int)] [] = .ok (.bl true) h') {vs : List V} {H : Hp} {Q : VK} {E : XK} (x : spLaw n G.K vs H Q E) : lift G F vs H Q E := by
  obtain ⟨a, ns, rfl, hs, ho, hn, q⟩ := x
  obtain ⟨h', e⟩ := law ns hn
  refine ⟨[.lsc (ns.map D.int)], [], ⟨fun b => ∃ o xs, H b = some (.frz o (.lst xs)), []⟩, ⟨rfl, fun i o e => by simp at e, by simp, fun a ha => by simp at ha, fun b ⟨o, xs, e⟩ => ⟨_, e, trivial⟩, fun q hq => by rw [hT] at hq; cases hq⟩, .cons (.scr ?_ (RVs.ofInts ns)) .nil, ?_⟩
  · rcases hs with (hs | ⟨o, hs⟩) | hs
    · rcases ho a with z | ⟨o, xs, z⟩
      · rw [hs] at z; cases z
      · rw [hs] at z; cases z
    · exact .inl ⟨⟨o, _, hs⟩, o, hs⟩
    · exact .inr hs
  · rw [e]
    intro v M' H' _ _ rv
    cases rv
    exact q H'
/-- the goal that k_head leaves, from the law's own text -/
theorem walk_L {l : PySem.W.OpenLaw} {n k : Nat} {q : Program} {loose : List Str} {XP : (Str → Option Value) → Heap → Prop} {YP : World → Heap → Prop} {d : DefRec} {K : Params → PySem.W.Frag} {x : Str}
    (hn : l.most = some n) (hn2 : n ≤ sizeLine) (hdf : d.params.defaults = []) (hr : Room k callerA) (hY : ∀ (w : World) (h : Heap), YP w h → (K w.params).In h) {Fl : Fsem} (law : ∀ ns : List Int, ns.length ≤ n → ∃ h', Fl [.lsc (ns.map D.int)] [] = .ok (.bl true) h')
    (F : ∀ (w : World) (mg : Str → Option Value) (fa : Addr) (h : Heap), (K w.params).In h → h.Ns mainGlobals mg → mg d.name = some (.ref fa) →
      ∃ (fd : FuncData) (G : Gx), G.K = K w.params ∧ G.mg = mg ∧ G.T = [] ∧ (∀ (s : Shared) (u : Value), BindsTo s fd ⟨[u], []⟩ [(x, u)]) ∧
        ∀ base : Heap, (K w.params).In base → base.Ns mainGlobals mg → FnOk l.prog w (K w.params) mg base (L2.CX l.prog w) k fa fd [x] (lift G Fl)) :
    PySem.W.WalkO q loose XP YP l.row.toRowW d [] (fun f vs => PySem.call f vs) := by
  refine L2.walk_of (n := n) (k := k) (x := x) (CX := fun w => L2.CX l.prog w) (sp := fun w => spLaw n (K w.params)) hn hn2 hdf hr hY (fun w mg fa h KX G hm => ?_) (fun w H a ns hl ho hS => ⟨a, ns, rfl, hS, ho, hl, fun _ => rfl⟩) ?_
  · obtain ⟨fd, G', eK, em, eT, hb, hF⟩ := F w mg fa h KX G hm
    exact ⟨fd, hb, fun base h1 h2 => (hF base h1 h2).imp fun vs H Q E hs => spLaw_lift (G := G') eT law (by rw [eK]; exact hs)⟩
  · intro w H s e s' ⟨_, _, _, _, _, _, _, _, _, _, _, _, z⟩
    exact z
end Pf

set_option Elab.async false
set_option linter.all false
set_option maxRecDepth 100000
/-! ## Instances -/
namespace Pf
open PySem L2
def fldE (c f : Nat) : D → Option D
  | .ins c' fs => if c' = c then fs.lookup f else none
  | _ => none
/-- the class c, whose field f is a slot or none of the class's own names -/
def FldL (t : Tb) (c f : Nat) : Prop := f < 33 ∧ ∃ C, t.G.mg (nmC c) = some (.ref C) ∧ ((isSl c = false ∧ Cls t.G.K C ∧ NoAttr t.G.K C (nmF f)) ∨ (isSl c = true ∧ SlX.SCls t.G.K C ∧ ∃ p i, SlX.Slot1 t.G.K C (nmF f) p i ∧ (slTab c).lookup f = some i))
section
variable {X : Cx} {G : Gx} {ck : Ck} {k : Nat} {Wx : WX} {σ : St} {H : Hp} {M : Mp} {h : Hh}
theorem getattr_D {pins : List (Addr × Obj)} {s : Shared} {A : Around} {E : Value → Shared → Prop} {c f : Nat} {d : D} {fs : List (Nat × D)} {a : Addr} {b : Bool} {Q : Value → Shared → Prop} (hK : G.K = X.K) (t : FldL (tbOf X G k) c f) (I : Inv X pins σ H s) (ro : RO G M H a (.ins c fs)) (e : fs.lookup f = some d)
    (q : ∀ v u s', Inv X pins σ H s' → RelV v u → RV G M H d v → Q u s') : wpAny (model X.prog X.w) A (getAttr (.ref a) (nmF f) b) Q E s := by
  obtain ⟨hf, C, hm, ⟨hs, cl, na⟩ | ⟨hs, cl, p, i, sl, hi⟩⟩ := t
  · dsimp only at cl na
    rw [hK] at cl na
    cases ro with
    | ins i m hh r =>
      rw [hm] at m; cases m
      obtain ⟨v, l, rv⟩ := r.look hf e
      exact getattr_ok I hh cl na l fun u s' I' ru => q v u s' I' ru rv
    | sl0 i m hh => rw [hs] at i; cases i
    | sl1 i m hh _ _ _ _ => rw [hs] at i; cases i
  · dsimp only at cl sl
    rw [hK] at cl sl
    cases ro with
    | ins i m hh r => rw [hs] at i; cases i
    | sl0 i m hh => simp at e
    | sl1 i m hh hF hx so r =>
      rw [hm] at m; cases m
      obtain ⟨v, l, rv⟩ := r.look hf e
      obtain ⟨j, e1, e2⟩ := so f v hf l
      rw [hi] at e1; cases e1
      exact SlX.getslot_ok I (.inr ⟨hh, hx⟩) cl sl e2 fun u s' I' ru => q v u s' I' ru rv
end
def attB (n : Str) (x : Ck → Expr → Bool) (ck : Ck) (a : Expr) : Bool := match a with
  | .Attribute y m _ => m == n && x ck y && plainBase y
  | _ => false
theorem attB_some {n : Str} {x : Ck → Expr → Bool} {ck : Ck} {a : Expr} (h : attB n x ck a = true) : ∃ y p, a = .Attribute y n p ∧ x ck y = true ∧ plainBase y = true := by
  unfold attB at h
  split at h
  · simp only [Bool.and_eq_true, beq_iff_eq] at h
    obtain ⟨⟨rfl, h1⟩, h2⟩ := h
    exact ⟨_, _, rfl, h1, h2⟩
  · cases h
/-- x.f, x an instance of c -/
def Xp.at (c f : Nat) (x : Xo) : Xp where
  sem r h := (x.sem r h).bind fun d h1 => ofO (on1 (fldE c f) h1 d) h1
  ok := attB (nmF f) x.ok
  need t := FldL t c f ∧ x.need t
  star _ a h := by obtain ⟨y, p, rfl, _⟩ := attB_some h; rfl
  snd {X G ck k Wx a} C h n := by
    obtain ⟨y, p, rfl, hx, hb⟩ := attB_some h
    refine ⟨fun pins s σ H Qv I ⟨r, hh, M, rl, re, k⟩ => attr_of (base_of hb) (thn ((x.snd C hx n.2).run pins s σ H (fun v H1 => ∃ d h1 M1, RL G h1 M1 H1 ∧ RB G M1 H1 d v ∧ KG (RV G) G Wx σ M1 H1 Qv (ofO (on1 (fldE c f) h1 d) h1)) I ⟨r, hh, M, rl, re, one k fun d v h1 M1 H1 e1 r1 b1 k1 => ⟨d, h1, M1, r1, b1, k1⟩⟩) fun u s1 ⟨v, H1, I1, ru, d, h1, M1, r1, b1, k1⟩ => ?_)⟩
    unfold on1 at k1
    cases e1 : vw h1 d with
    | none => rw [e1] at k1; exact k1.elim
    | some d' =>
      rw [e1] at k1
      simp only [Option.bind_some] at k1
      cases e2 : fldE c f d' with
      | none => rw [e2] at k1; exact k1.elim
      | some z =>
        rw [e2] at k1
        unfold fldE at e2
        split at e2
        · split at e2
          · rename_i hc
            subst hc
            obtain ⟨a, rfl, ro⟩ := (vw_ok r1 b1 e1).thing trivial
            obtain rfl : u = Value.ref a := ru
            exact getattr_D C.hK n.1 I1 ro e2 fun v u s' I' ru rv => ⟨v, H1, I', ru, k1.here r1 rv⟩
          · cases e2
        · cases e2
end Pf

set_option Elab.async false
set_option linter.all false
set_option maxRecDepth 100000
/-! ## Properties, methods, stores, new instances -/
namespace Pf
open PySem L2
def isIns (c : Nat) : D → Bool
  | .ins c' _ => c' == c
  | _ => false
/-- the class's kind -/
def ClsL (t : Tb) (c : Nat) (C : Addr) : Prop := t.G.mg (nmC c) = some (.ref C) ∧ ((isSl c = false ∧ Cls t.G.K C) ∨ (isSl c = true ∧ SlX.SCls t.G.K C))
/-- the property f of c; F is what its def computes -/
def PropL (t : Tb) (c : Nat) (f : Str) (F : Fsem) : Prop := ∃ C p g fd ps, ClsL t c C ∧ PropOf t.G.K C f p g ∧ Binds t.G.K fd ps [] ∧ FnOk t.P t.w t.G.K t.G.mg t.base (CX t.P t.w) t.k g fd ps (lift t.G F)
/-- the method m of c -/
def MethL (t : Tb) (c : Nat) (m : Str) (F : Fsem) : Prop := ∃ C g fd ps, ClsL t c C ∧ Meth t.G.K C m g ∧ Binds t.G.K fd ps [] ∧ FnOk t.P t.w t.G.K t.G.mg t.base (CX t.P t.w) t.k g fd ps (lift t.G F)
/-- the class c is made by its __init__, which computes F -/
def MkL (t : Tb) (c : Nat) (F : Fsem) : Prop := ∃ C g fd ps, t.G.mg (nmC c) = some (.ref C) ∧ Mk t.G.K C g ∧ Binds t.G.K fd ps [] ∧ FnOk t.P t.w t.G.K t.G.mg t.base (CX t.P t.w) t.k g fd ps (lift t.G F)
theorem RFs.not_in {G : Gx} {M : Mp} {H : Hp} {m : Str} (hm : ∀ i < 33, nmF i ≠ m) : ∀ {l : List (Nat × D)} {xs : List (Str × V)}, RFs G M H l xs → xs.lookup m = none
  | _, _, .nil => rfl
  | _, _, .cons (f := g) n h t => by
    simp only [List.lookup_cons]
    have : (m == nmF g) = false := by rw [beq_eq_false_iff_ne]; exact fun z => hm g n z.symm
    rw [this]
    exact RFs.not_in hm t
section
variable {X : Cx} {G : Gx} {ck : Ck} {k : Nat} {Wx : WX} {σ : St} {H : Hp} {M : Mp} {h : Hh}
theorem getprop_D (C : Cok X G ck k Wx) {pins : List (Addr × Obj)} {s : Shared} {c : Nat} {f : Str} {F : Fsem} {d d' : D} {v : V} {u : Value} {b : Bool} {Qv : VK} (t : PropL (tbOf X G k) c f F) (I : Inv X pins σ H s) (rl : RL G h M H) (rv : RV G M H d v) (ru : RelV v u) (e : vw h d = some d') (hi : isIns c d' = true)
    (q : KG (RV G) G Wx σ M H Qv (noX (F [d] h))) : wpAny (model X.prog X.w) X.A (getAttr u f b) (EP X pins σ Qv) X.xe s := by
  obtain ⟨Ca, p, g, fd, ps, ⟨hm, hc⟩, hp, hb, Fo⟩ := t
  dsimp only at hm hc hp hb Fo
  rw [C.hK] at hc hp hb Fo
  rw [C.hmg] at Fo
  cases d' <;> simp only [isIns, Bool.false_eq_true] at hi
  have hi := eq_of_beq hi
  subst hi
  obtain ⟨a, rfl, ro⟩ := (vw_ok rl (.inl rv) e).thing trivial
  obtain rfl : u = Value.ref a := ru
  have hs : lift G F [.ref a] H Qv (fun _ _ _ => False) := ⟨[d], h, M, rl, .cons rv .nil, by
    cases q2 : F [d] h with
    | no => rw [q2] at q; exact q
    | exc c fs h' => rw [q2] at q; exact q.elim
    | ok z h' => rw [q2] at q; exact q⟩
  rcases hc with ⟨s1, cl⟩ | ⟨s1, cl⟩
  · cases ro with
    | ins i m hh r =>
      rw [hm] at m; cases m
      exact getprop_ok I hh cl hp Fo (C.room.mono (by omega)) hb .nil (fun pins σ H s e s' _ ⟨_, _, _, _, _, _, _, _, _, _, _, _, z⟩ => z) hs
    | sl0 i m hh => rw [s1] at i; cases i
    | sl1 i m hh _ _ _ _ => rw [s1] at i; cases i
  · have FR : FnR X.prog X.w X.K X.mg X.base (L2.CX X.prog X.w) k g (fun vs H Q E => lift G F (vs ++ []) H Q E) := FnOk.raw Fo hb .nil
    have hx : ∀ (H : Hp) (s : Shared) (e : Value) (s' : Shared), L2.CX X.prog X.w X.stack H s (fun _ _ _ => False) e s' → False := fun H s e s' ⟨_, _, _, _, _, _, _, _, _, _, _, _, z⟩ => z
    cases ro with
    | ins i m hh r => rw [s1] at i; cases i
    | sl0 i m hh =>
      rw [hm] at m; cases m
      exact SlX.getprop_sl I (.inl ⟨hh, rfl⟩) cl hp.at_ hp.get hp.tak hp.rec_ FR (C.room.mono (by omega)) hx hs
    | sl1 i m hh hF hxd so r =>
      rw [hm] at m; cases m
      exact SlX.getprop_sl I (.inr ⟨hh, hxd⟩) cl hp.at_ hp.get hp.tak hp.rec_ FR (C.room.mono (by omega)) hx hs
end
/-- x.f, a property -/
def Xp.prop (c : Nat) (f : Str) (F : Fsem) (x : Xp) : Xp where
  sem r h := (x.sem r h).bind fun d h1 => match vw h1 d with
    | some d' => if isIns c d' then noX (F [d] h1) else .no
    | none => .no
  ok := attB f x.ok
  need t := PropL t c f F ∧ x.need t
  star _ a h := by obtain ⟨y, p, rfl, _⟩ := attB_some h; rfl
  snd {X G ck k Wx a} C h n := by
    obtain ⟨y, p, rfl, hx, hb⟩ := attB_some h
    refine ⟨fun pins s σ H Qv I ⟨r, hh, M, rl, re, k⟩ => attr_of (base_of hb) (thn ((x.snd C hx n.2).run pins s σ H (fun v H1 => ∃ d h1 M1, RL G h1 M1 H1 ∧ RV G M1 H1 d v ∧ KG (RV G) G Wx σ M1 H1 Qv (match vw h1 d with
      | some d' => if isIns c d' then noX (F [d] h1) else .no
      | none => .no)) I ⟨r, hh, M, rl, re, one k fun d v h1 M1 H1 e1 r1 b1 k1 => ⟨d, h1, M1, r1, b1, k1⟩⟩) fun u s1 ⟨v, H1, I1, ru, d, h1, M1, r1, b1, k1⟩ => ?_)⟩
    split at k1
    · rename_i d' e1
      split at k1
      · rename_i hi
        exact getprop_D C n.1 I1 r1 b1 ru e1 hi k1
      · exact k1.elim
    · exact k1.elim
end Pf

set_option Elab.async false
set_option linter.all false
set_option maxRecDepth 100000
/-! ## Methods, stores, new instances -/
namespace Pf
open PySem L2
theorem call_meth {P : Program} {w : World} {A : Around} {E : Value → Shared → Prop} {s : Shared} {env : Env} {o : Expr} {name : Str} {apos pos : Pos} {args : List Expr} {Q : Value → Shared → Prop} (hb : plainBase o = true) (hs : args.all notStar = true) (hl : args.length < 29) (hline : (apos.endLine == pos.line) = true)
    (h : wpAny (model P w) A (eval o env) (fun ov s1 => ∀ pl : Sem Bool, wpAny (model P w) A (getMethod ov name pl) (fun fx s2 => wpAny (model P w) A (callWith pos fx.1 fx.2 (backTo pos (starEach args env)) (backToKw pos (keywordEach [] env))) Q E s2) E s1) E s) :
    wpAny (model P w) A (eval (.Call (.Attribute o name apos) args [] pos) env) Q E s := by
  have few : methodCallForm (args.length + ([] : List Keyword).length) (backTo pos (starEach args env)) (backToKw pos (keywordEach [] env)) = true := by
    unfold methodCallForm
    rw [few_of hs]
    simp [keywordEach, backToKw]
    omega
  rw [arm_eval_Call, base_of hb]
  refine wpAny_bind (wpAny_mono h (fun ov s1 h1 => wpAny_bind (wpAny_standAt ?_)) fun _ _ e => e)
  have hpos : methodCallPos true o env apos pos = pure pos := by unfold methodCallPos; simp [hline]
  unfold methodCall
  rw [few]
  refine wpAny_bind (wpAny_holding (wpAny_mono (h1 _) (fun fx s2 h2 => ?_) fun _ _ e => e))
  exact wpAny_bind (wpAny_of_eq hpos h2)
section
variable {X : Cx} {G : Gx} {ck : Ck} {k : Nat} {Wx : WX} {σ : St} {H : Hp} {M : Mp} {h : Hh}
/-- the method m of the instance at a -/
theorem getmeth_D {pins : List (Addr × Obj)} {s : Shared} {A : Around} {E : Value → Shared → Prop} {c : Nat} {m : Str} {g Ca a : Addr} {fs : List (Nat × D)} {pl : Sem Bool} {Q : Value × List Value → Shared → Prop} (hK : G.K = X.K) (hc : ClsL (tbOf X G k) c Ca) (hm : Meth X.K Ca m g) (hn : ∀ i < 33, nmF i ≠ m) (I : Inv X pins σ H s) (ro : RO G M H a (.ins c fs)) (q : Q (.ref g, [.ref a]) s) : wpAny (model X.prog X.w) A (getMethod (.ref a) m pl) Q E s := by
  obtain ⟨hg, hc⟩ := hc
  dsimp only at hg hc
  rw [hK] at hc
  rcases hc with ⟨s1, cl⟩ | ⟨s1, cl⟩
  · cases ro with
    | ins i mm hh r =>
      rw [hg] at mm; cases mm
      exact getmeth_ok I hh cl hm (r.not_in hn) q
    | sl0 i mm hh => rw [s1] at i; cases i
    | sl1 i mm hh _ _ _ _ => rw [s1] at i; cases i
  · cases ro with
    | ins i mm hh r => rw [s1] at i; cases i
    | sl0 i mm hh =>
      rw [hg] at mm; cases mm
      exact SlX.getmethsl_ok I (.inl ⟨hh, rfl⟩) cl hm q
    | sl1 i mm hh hF hx so r =>
      rw [hg] at mm; cases mm
      exact SlX.getmethsl_ok I (.inr ⟨hh, hx⟩) cl hm q
end
def fresh33 (m : Str) : Bool := (List.range 33).all fun i => !(nmF i == m)
theorem fresh33_ok {m : Str} (h : fresh33 m = true) : ∀ i < 33, nmF i ≠ m := fun i hi z => by
  have := List.all_eq_true.mp h i (by simpa using hi)
  rw [z] at this
  simp at this
def mcB (m : Str) (o : Ck → Expr → Bool) (xs : List Xp) (ck : Ck) (a : Expr) : Bool := match a with
  | .Call (.Attribute y n ap) es [] p => n == m && o ck y && okA xs ck es && decide (es.length < 29) && plainBase y && (ap.endLine == p.line) && fresh33 m
  | _ => false
theorem mcB_some {m : Str} {o : Ck → Expr → Bool} {xs : List Xp} {ck : Ck} {a : Expr} (h : mcB m o xs ck a = true) : ∃ y ap es p, a = .Call (.Attribute y m ap) es [] p ∧ o ck y = true ∧ okA xs ck es = true ∧ es.length < 29 ∧ plainBase y = true ∧ (ap.endLine == p.line) = true ∧ ∀ i < 33, nmF i ≠ m := by
  unfold mcB at h
  split at h
  · simp only [Bool.and_eq_true, beq_iff_eq, decide_eq_true_eq] at h
    obtain ⟨⟨⟨⟨⟨⟨rfl, h1⟩, h2⟩, h3⟩, h4⟩, h5⟩, h6⟩ := h
    exact ⟨_, _, _, _, rfl, h1, h2, h3, h4, by simpa using h5, fresh33_ok h6⟩
  · cases h
/-- o.m(..), o an instance of c; F is what the method computes, of o and the arguments -/
def Xp.mc (c : Nat) (m : Str) (F : Fsem) (o : Xp) (xs : List Xp) : Xp where
  sem r h := (o.sem r h).bind fun d h1 => match vw h1 d with
    | some d' => if isIns c d' then (semA xs r h1).bind fun ds h2 => F (d :: ds) h2 else .no
    | none => .no
  ok := mcB m o.ok xs
  need t := MethL t c m F ∧ o.need t ∧ needA xs t
  star _ a h := by obtain ⟨y, ap, es, p, rfl, _⟩ := mcB_some h; rfl
  snd {X G ck k Wx a} C h n := by
    obtain ⟨y, ap, es, p, rfl, ho, hA, hl, hb, hline, hn⟩ := mcB_some h
    obtain ⟨⟨Ca, g, fd, ps, hc, hm, hbd, Fo⟩, n1, n2⟩ := n
    dsimp only at hm hbd Fo
    rw [C.hK] at hm hbd Fo
    rw [C.hmg] at Fo
    have hst := okA_star hA
    refine ⟨fun pins s σ H Qv I ⟨r, hh, M, rl, re, k⟩ => call_meth hb hst hl hline (thn ((o.snd C ho n1).run pins s σ H (fun v H1 => ∃ d h1 M1, Ext M H M1 H1 ∧ RL G h1 M1 H1 ∧ RV G M1 H1 d v ∧ KG (RV G) G Wx σ M1 H1 Qv (match vw h1 d with
      | some d' => if isIns c d' then (semA xs r h1).bind fun ds h2 => F (d :: ds) h2 else .no
      | none => .no)) I ⟨r, hh, M, rl, re, one k fun d v h1 M1 H1 e1 r1 b1 k1 => ⟨d, h1, M1, e1, r1, b1, k1⟩⟩) fun u s1 ⟨v, H1, I1, ru, d, h1, M1, e1, r1, b1, k1⟩ pl => ?_)⟩
    split at k1
    · rename_i d' e2
      split at k1
      · rename_i hi
        cases d' <;> simp only [isIns, Bool.false_eq_true] at hi
        have hi := eq_of_beq hi
        subst hi
        obtain ⟨a, rfl, ro⟩ := (vw_ok r1 (.inl b1) e2).thing trivial
        obtain rfl : u = Value.ref a := ru
        refine getmeth_D C.hK hc hm hn I1 ro ?_
        have fin : ∀ {H2 : Hp} {s2 : Shared} {vs : List V} {us : List Value}, Inv X pins σ H2 s2 → Vals vs us → (∃ ds h2 M2, Ext M1 H1 M2 H2 ∧ RL G h2 M2 H2 ∧ RVs G M2 H2 ds vs ∧ KG (RV G) G Wx σ M2 H2 Qv (F (d :: ds) h2)) → wpAny (model X.prog X.w) X.A (PySem.call (.ref g) (.ref a :: us)) (EP X pins σ Qv) X.xe s2 := by
          intro H2 s2 vs us I2 rv ⟨ds, h2, M2, e2, r2, rd, w2⟩
          exact run_L C Fo hbd I2 (vs := .ref a :: vs) (.cons rfl rv) r2 (.cons (b1.ext C.gk r1 e2) rd) w2
        cases es with
        | nil =>
          refine PySem.W.callWith_K0 (first := [.ref a]) I1.kIn hm.kp ?_
          cases xs with
          | nil => exact fin I1 .nil ⟨[], h1, M1, Ext.refl, r1, .nil, k1⟩
          | cons a b => simp [okA] at hA
        | cons e es =>
          simp only [List.all_cons, Bool.and_eq_true] at hst
          exact PySem.W.callWith_K (first := [.ref a]) (h₀ := X.base) I.ok.mod.kin hm.kp (thn ((sndA xs C hA n2).run p pins s1 σ H1 (fun vs H2 => ∃ ds h2 M2, Ext M1 H1 M2 H2 ∧ RL G h2 M2 H2 ∧ RVs G M2 H2 ds vs ∧ KG (RV G) G Wx σ M2 H2 Qv (F (d :: ds) h2)) I1 ⟨r, h1, M1, r1, re.ext C.gk rl e1, one k1 fun ds vs h2 M2 H2 e2 r2 b2 k2 => ⟨ds, h2, M2, e2, r2, b2, k2⟩⟩) fun us s2 ⟨vs, H2, I2, rv, q⟩ => ⟨I2.kIn, fin I2 rv q⟩) (star_cons hst.1 _) (stars_of hst.2)
      · exact k1.elim
    · exact k1.elim
end Pf

set_option Elab.async false
set_option linter.all false
set_option maxRecDepth 100000
/-! ## Stores to fields, new instances -/
namespace Pf
open PySem L2
def putD (f : Nat) (v : D) : List (Nat × D) → List (Nat × D)
  | [] => [(f, v)]
  | (g, x) :: r => if g = f then (g, v) :: r else (g, x) :: putD f v r
theorem RFs.put {G : Gx} {M : Mp} {H : Hp} {f : Nat} {d : D} {y : V} (hf : f < 33) (rv : RV G M H d y) : ∀ {l : List (Nat × D)} {xs : List (Str × V)}, RFs G M H l xs → RFs G M H (putD f d l) (putF (nmF f) y xs)
  | _, _, .nil => .cons hf rv .nil
  | _, _, .cons (f := g) n h t => by
    unfold putD putF
    by_cases e : g = f
    · subst e; simp only [if_true]; exact .cons n rv t
    · have e2 : nmF g ≠ nmF f := fun z => e (nmF_inj n hf z)
      simp only [e, e2, if_false]
      exact .cons n h (RFs.put hf rv t)
theorem RFs.len {G : Gx} {M : Mp} {H : Hp} : ∀ {l : List (Nat × D)} {xs : List (Str × V)}, RFs G M H l xs → l.length = xs.length
  | _, _, .nil => rfl
  | _, _, .cons _ _ t => by simp [t.len]
theorem look_mem {x i : Nat} : ∀ {l : List (Nat × Nat)}, l.lookup x = some i → i ∈ l.map (·.2)
  | [], h => by simp at h
  | (k, j) :: l, h => by
    simp only [List.lookup_cons] at h
    cases e : x == k with
    | true => rw [e] at h; cases h; exact List.mem_cons_self
    | false => rw [e] at h; exact List.mem_cons_of_mem _ (look_mem h)
theorem look_inj {f g i : Nat} : ∀ {l : List (Nat × Nat)}, (l.map (·.2)).Nodup → l.lookup f = some i → l.lookup g = some i → f = g
  | [], _, h, _ => by simp at h
  | (k, j) :: l, n, h1, h2 => by
    simp only [List.map_cons, List.nodup_cons] at n
    simp only [List.lookup_cons] at h1 h2
    cases e1 : f == k with
    | true =>
      cases e2 : g == k with
      | true => rw [eq_of_beq e1, eq_of_beq e2]
      | false =>
        rw [e1] at h1; rw [e2] at h2
        cases h1
        exact absurd (look_mem h2) n.1
    | false =>
      rw [e1] at h1
      cases e2 : g == k with
      | true =>
        rw [e2] at h2
        cases h2
        exact absurd (look_mem h1) n.1
      | false =>
        rw [e2] at h2
        exact look_inj n.2 h1 h2
theorem slTab_nd (c : Nat) : ((slTab c).map (·.2)).Nodup := by
  unfold slTab
  split <;> decide
theorem SlotsOk.put {c f i : Nat} {vs : List (Str × V)} {ws : List (Option V)} {y : V} (hf : f < 33) (hi : (slTab c).lookup f = some i) (h : SlotsOk c vs ws) : SlotsOk c (putF (nmF f) y vs) (SlX.putS i y ws) := by
  intro g v hg e
  rw [lookup_putF] at e
  split at e
  · rename_i hz
    cases e
    rw [nmF_inj hg hf hz]
    exact ⟨i, hi, SlX.putS_get i y ws⟩
  · rename_i hz
    obtain ⟨j, h1, h2⟩ := h g v hg e
    refine ⟨j, h1, (SlX.putS_ne (fun z => ?_)).mpr h2⟩
    subst z
    exact hz (by rw [look_inj (slTab_nd c) h1 hi])
section
variable {X : Cx} {G : Gx} {ck : Ck} {k : Nat} {Wx : WX} {σ : St} {H : Hp} {M : Mp} {h : Hh}
/-- the dict of an instance with slots is written no more from here on -/
theorem own_ne {b a dx : Addr} {o : HO} (hd : H dx = some (.own a)) (e : H b = some o) (y : Stl o) : b ≠ dx := fun z => by
  subst z; rw [hd] at e; cases e; exact y
theorem setattr_D (gk : Gk G) {pins : List (Addr × Obj)} {s : Shared} {A : Around} {E : Value → Shared → Prop} {c f i : Nat} {d : D} {fs : List (Nat × D)} {a : Addr} {y : V} {u : Value} {Q : Unit → Shared → Prop} (hK : G.K = X.K) (t : FldL (tbOf X G k) c f) (I : Inv X pins σ H s) (rl : RL G h M H) (hb : M.bs[i]? = some a) (ho : h[i]? = some (.ins c fs)) (hl : fs.length < 900) (rv : RV G M H d y) (ru : RelV y u)
    (q : ∀ M' H' s', Inv X pins σ H' s' → Ext M H M' H' → RL G (h.set i (.ins c (putD f d fs))) M' H' → Q () s') : wpAny (model X.prog X.w) A (setAttr (.ref a) (nmF f) u) Q E s := by
  have hm : a ∈ M.bs := List.mem_iff_getElem?.mpr ⟨i, hb⟩
  have ro := rl.look ho hb
  obtain ⟨hf, C, hg, ⟨hs, cl, na⟩ | ⟨hs, cl, p, j, sl, hj⟩⟩ := t
  · dsimp only at cl na hg
    rw [hK] at cl na
    cases ro with
    | ins i2 m hh r =>
      rw [hg] at m; cases m
      refine setattr_ok I hh cl na (by rw [← r.len]; omega) ru fun s' I' => q M _ s' I' (Ext.chg hm) (rl.chg gk hb (.ins i2 hg upd_same ((r.put hf rv).keep gk (Keep.chg rl hm))))
    | sl0 i2 m hh => rw [hs] at i2; cases i2
    | sl1 i2 m hh _ _ _ _ => rw [hs] at i2; cases i2
  · dsimp only at cl sl hg
    rw [hK] at cl sl
    cases ro with
    | ins i2 m hh r => rw [hs] at i2; cases i2
    | sl0 i2 m hh =>
      rename_i C' dx
      rw [hg] at m; cases m
      obtain ⟨hd, _, hne, _⟩ := I.hok a _ hh
      refine SlX.setslot_ok I (.inl ⟨hh, rfl⟩) cl sl ru fun s' I' => q (M.fr dx) _ s' I' ?_ ?_
      · refine ⟨fun b o e n y => ?_, fun b e => ?_, fun b e => .inl e, ⟨[], by simp [Mp.fr], by simp⟩, fun b e => ?_⟩
        · exact (SlX.slH_ne (fun (z : b = a) => n (by rw [z]; exact hm)) (own_ne hd e y)).trans e
        · unfold SlX.slH at e
          by_cases z : b = a
          · subst z; rw [upd_same] at e; cases e
          · rw [upd_ne z] at e
            by_cases w : b = dx
            · subst w; rw [upd_same] at e; cases e
            · rw [upd_ne w] at e; exact e
        · rcases e with e | e
          · exact .inl e
          · subst e; exact .inr (.inr (.inr ⟨_, hd, fun z => z⟩))
      · have kp : Keep M H (M.fr dx) (SlX.slH H a C dx (SlX.putS j y [])) := ⟨fun b z => ⟨.inl z, fun o e => by
          obtain ⟨o', e', y'⟩ := rl.fz b z
          rw [e] at e'; cases e'
          exact (SlX.slH_ne (fun (w : b = a) => rl.off a hm (by rw [← w]; exact z)) (own_ne hd e y')).trans e⟩, fun _ _ w => w⟩
        refine ⟨by simp [rl.len, Mp.fr], fun j2 o e => ?_, rl.nd, fun b hb' z => ?_, fun b z => ?_, tb_up (fun c z => .inl z) (fun b ps e => ?_) (fun b u e z => (kp.k b z).2 _ e) rl.tb⟩
        · by_cases z : i = j2
          · subst z
            rw [List.getElem?_set_self (List.getElem?_eq_some_iff.mp ho).1] at e
            cases e
            refine ⟨a, hb, .sl1 i2 hg (by unfold SlX.slH; exact upd_same) (.inr rfl) (by unfold SlX.slH; rw [upd_ne hne, upd_same]) (SlotsOk.put hf hj (vs := []) (fun g v _ e => by simp at e)) ?_⟩
            exact RFs.put hf (rv.keep gk kp) .nil
          · rw [List.getElem?_set_ne z] at e
            obtain ⟨b, hb2, ro2⟩ := rl.at_ j2 o e
            obtain ⟨w, hw, hy⟩ := ro2.some
            have hne2 : b ≠ a := fun w => by
              subst w
              have g1 := List.getElem?_eq_some_iff.mp hb
              have g2 := List.getElem?_eq_some_iff.mp hb2
              exact z ((List.getElem_inj rl.nd (h₀ := g1.1) (h₁ := g2.1)).mp (g1.2.trans g2.2.symm))
            exact ⟨b, hb2, ro2.keep gk kp fun u2 e2 => (SlX.slH_ne hne2 (own_ne hd hw hy)).trans e2⟩
        · rcases z with z | z
          · exact rl.off b hb' z
          · subst z
            obtain ⟨w, hw, hy⟩ := rl.tracked hb'
            rw [hd] at hw; cases hw; exact hy
        · rcases z with z | z
          · obtain ⟨o, e, y'⟩ := rl.fz b z
            exact ⟨o, (kp.k b z).2 o e, y'⟩
          · subst z; exact ⟨.xd [], by unfold SlX.slH; rw [upd_ne hne, upd_same], trivial⟩
        · have n1 : b ≠ a := fun z => by subst z; rw [hh] at e; cases e
          have n2 : b ≠ dx := fun z => by subst z; rw [hd] at e; cases e
          exact (SlX.slH_ne n1 n2).trans e
    | sl1 i2 m hh hF hx so r =>
      rename_i C' dx vs ws
      rw [hg] at m; cases m
      have hne : dx ≠ a := fun z => rl.off a hm (by rw [← z]; exact hF)
      have eH : SlX.slH H a C dx (SlX.putS j y ws) = upd H a (SlX.SlO a C dx (SlX.putS j y ws)) := by
        funext b
        unfold SlX.slH
        by_cases z : b = a
        · subst z; rw [upd_same, upd_same]
        · rw [upd_ne z, upd_ne z]
          by_cases w : b = dx
          · subst w; rw [upd_same]; exact hx.symm
          · rw [upd_ne w]
      refine SlX.setslot_ok I (.inr ⟨hh, hx⟩) cl sl ru fun s' I' => ?_
      rw [eH] at I'
      have kp := Keep.chg (o := SlX.SlO a C dx (SlX.putS j y ws)) rl hm
      exact q M _ s' I' (Ext.chg hm) (rl.chg gk hb (.sl1 i2 hg upd_same hF ((kp.k dx hF).2 _ hx) (so.put hf hj) ((r.put hf rv).keep gk kp)))
end
def setAB (n : Str) (o e : Ck → Expr → Bool) (ck : Ck) (st : Stmt) : Bool := match st with
  | .Assign [.Attribute y m _] v _ => m == n && o ck y && e ck v
  | _ => false
/-- o.f = e, o an instance of c that stands in the heap -/
def Sm.setA (c f : Nat) (o e : Xp) : Sm where
  sem r h := (e.sem r h).st r fun d h1 => (o.sem r h1).st r fun x h2 => match x with
    | .ref i => (match h2[i]? with
      | some (.ins c' fs) => if c' = c ∧ fs.length < 900 then .nx r (h2.set i (.ins c (putD f d fs))) else .no
      | _ => .no)
    | _ => .no
  ok := setAB (nmF f) o.ok e.ok
  need t := FldL t c f ∧ o.need t ∧ e.need t
  snd {X G ck k Wx st} C hk h n := by
    unfold setAB at h
    split at h
    · rename_i y m p v q
      simp only [Bool.and_eq_true, beq_iff_eq] at h
      obtain ⟨⟨rfl, ho⟩, he⟩ := h
      refine ⟨fun pins s σ H Dn I ⟨M0, H0, r, hh, M, sv, k⟩ => plainObj_wpAny_Assign_Attribute (thn ((e.snd C he n.2.2).run pins s σ H (fun v H1 => ∃ d h1 M1, Sv G M0 H0 r h1 M1 σ H1 ∧ RV G M1 H1 d v ∧ KO G Wx M0 H0 M1 H1 Dn ((o.sem r h1).st r fun x h2 => match x with
        | .ref i => (match h2[i]? with
          | some (.ins c' fs) => if c' = c ∧ fs.length < 900 then .nx r (h2.set i (.ins c (putD f d fs))) else .no
          | _ => .no)
        | _ => .no)) I ⟨r, hh, M, sv.rl, sv.re, oneS C.gk sv k fun d v h1 M1 H1 e1 s1 rv k1 => ⟨d, h1, M1, s1, rv, k1⟩⟩) fun u s1 ⟨v, H1, I1, ru, d, h1, M1, sv1, rv, k1⟩ => thn ((o.snd C ho n.2.1).run pins s1 σ H1 (fun x H2 => ∃ z h2 M2, Ext M1 H1 M2 H2 ∧ Sv G M0 H0 r h2 M2 σ H2 ∧ RV G M2 H2 z x ∧ KO G Wx M0 H0 M2 H2 Dn (match z with
        | .ref i => (match h2[i]? with
          | some (.ins c' fs) => if c' = c ∧ fs.length < 900 then .nx r (h2.set i (.ins c (putD f d fs))) else .no
          | _ => .no)
        | _ => .no)) I1 ⟨r, h1, M1, sv1.rl, sv1.re, oneS C.gk sv1 k1 fun z x h2 M2 H2 e2 s2 rz k2 => ⟨z, h2, M2, e2, s2, rz, k2⟩⟩) fun ov s2 ⟨x, H2, I2, rx, z, h2, M2, e2, sv2, rz, k2⟩ => ?_) ?_⟩
      · split at k2
        · rename_i i
          split at k2
          · rename_i c' fs hi
            split at k2
            · rename_i hc
              obtain ⟨rfl, hl⟩ := hc
              cases rz with
              | ref hb =>
                obtain rfl : ov = Value.ref _ := rx
                exact setattr_D C.gk C.hK n.1 I2 sv2.rl hb hi hl (rv.ext C.gk sv1.rl e2) ru fun M' H' s' I' e' rl' => ⟨σ, H', I', k2 σ M' H' (e'.kp sv2.rl) (sv2.step C.gk e' rl')⟩
            · exact k2.elim
          · exact k2.elim
        · exact k2.elim
      · cases v <;> rfl
    · cases h
end Pf

set_option Elab.async false
set_option linter.all false
set_option maxRecDepth 100000
/-! ## New instances -/
namespace Pf
open PySem L2
section
variable {X : Cx} {G : Gx} {ck : Ck} {k : Nat} {Wx : WX} {σ : St} {H : Hp} {M : Mp} {h : Hh}
/-- a class is called: its __init__ at the new instance -/
theorem make_D (C : Cok X G ck k Wx) {c : Nat} {F : Fsem} {Ca : Addr} {pins : List (Addr × Obj)} {s : Shared} {us : List Value} {vs : List V} {Qv : VK} (t : MkL (tbOf X G k) c F) (hm : X.mg (nmC c) = some (.ref Ca)) (I : Inv X pins σ H s) (r : Vals vs us)
    (q : ∀ x dx, H x = none → H dx = none → dx ≠ x → lift G F (.ref x :: vs) (upd (upd H dx (.own x)) x (.ins Ca dx [])) (fun v H2 => v = .non ∧ Qv (.ref x) H2) (fun cls d H' => Wx cls d σ H')) :
    wpAny (model X.prog X.w) X.A (call (.ref Ca) us) (EP X pins σ Qv) X.xe s := by
  obtain ⟨Cb, g, fd, ps, hg, mk, hb, Fo⟩ := t
  dsimp only at hg mk hb Fo
  rw [C.hmg, hm] at hg
  cases hg
  rw [C.hK] at mk hb Fo
  rw [C.hmg] at Fo
  have fx := I.hok.fresh (Nat.le_succ s.heap.objs.size)
  have fd' := I.hok.fresh (Nat.le_refl s.heap.objs.size)
  have sp := q (s.heap.objs.size + 1) s.heap.objs.size fx fd' (Nat.ne_of_lt (Nat.lt_succ_self _))
  have J := Inv.made (C := Ca) I
  have rr : Vals (V.ref (s.heap.objs.size + 1) :: vs) (Value.ref (s.heap.objs.size + 1) :: us) := .cons rfl r
  have ln := Fo.len _ _ _ _ sp
  have bd := hb _ (Value.ref (s.heap.objs.size + 1) :: us) J.kIn (by rw [List.append_nil, ← rr.length]; exact ln)
  rw [List.append_nil] at bd
  have run := Fo.run _ X.stack _ _ ⟨Value.ref (s.heap.objs.size + 1) :: us, []⟩ _ _ _ _ ((C.room.mono (show k + 1 ≤ k + 2 by omega)).make Ca us []) (J.env0.make Ca us []) bd rr sp
  refine wpAny_call (make_map (f := g) I.kIn mk.makes mk.init (beq_iff_eq.mp mk.fn) (codeAny_mono run fun o s' hq => ?_))
  cases o with
  | error e => exact C.tk e s' (XE.of_call J (fun cls d H' z => z) hq)
  | ok fl =>
    cases fl with
    | ret u =>
      obtain ⟨v, H', J', rv, rfl, z⟩ := J.after hq
      exact ⟨rv, V.ref _, H', J', rfl, z⟩
    | next => exact hq.elim
    | brk => exact hq.elim
    | cont => exact hq.elim
end
/-- a class that is made: what its __init__ leaves, written no more -/
def mkF (c : Nat) (F : Fsem) : Fsem := fun ds h => if nrs ds then (match F (.ref 0 :: ds) [.ins c []] with
  | .ok .non (o :: _) => if nr o && isIns c o then .ok o h else .no
  | .exc e fs (_ :: _) => if nrf fs then .exc e fs h else .no
  | _ => .no) else .no
/-- .. a thing of the heap -/
def mkH (c : Nat) (F : Fsem) : Fsem := fun ds h => match F (.ref h.length :: ds) (h ++ [.ins c []]) with
  | .ok .non h' => .ok (.ref h.length) h'
  | .exc e fs h' => .exc e fs h'
  | _ => .no
theorem ro_new {G : Gx} {M : Mp} {H : Hp} {c : Nat} {x dx C : Addr} (hm : G.mg (nmC c) = some (.ref C)) (h : H x = some (.ins C dx [])) : RO G M H x (.ins c []) := by
  cases e : isSl c with
  | false => exact .ins e hm h .nil
  | true => exact .sl0 e hm h
section
variable {G : Gx} {H : Hp} {M : Mp} {h : Hh} {x dx C : Addr} {o : HO}
abbrev newI (H : Hp) (C x dx : Addr) : Hp := upd (upd H dx (.own x)) x (.ins C dx [])
theorem newI_ne {b : Addr} (h1 : b ≠ x) (h2 : b ≠ dx) : newI H C x dx b = H b := by unfold newI; rw [upd_ne h1, upd_ne h2]
theorem newI_keep (hx : H x = none) (hd : H dx = none) {b : Addr} {o : HO} (e : H b = some o) : newI H C x dx b = some o := (newI_ne (ne_of_none e hx) (ne_of_none e hd)).trans e
theorem Ext.newI (hx : H x = none) (hd : H dx = none) : Ext M H M (newI H C x dx) where
  keep := fun b o e _ _ => newI_keep hx hd e
  trk := fun b e => by
    by_cases z : b = x
    · subst z; exact hx
    · unfold Pf.newI at e
      rw [upd_ne z] at e
      by_cases w : b = dx
      · subst w; exact hd
      · rw [upd_ne w] at e; exact e
  fz := fun b e => e
  pre := ⟨[], by simp, by simp⟩
  newF := fun b e => .inl e
theorem RL.newI (gk : Gk G) (rl : RL G h M H) (hx : H x = none) (hd : H dx = none) : RL G h M (newI H C x dx) where
  len := rl.len
  at_ := fun i o e => by
    obtain ⟨a, ha, ro⟩ := rl.at_ i o e
    exact ⟨a, ha, ro.keep gk ⟨fun a z => ⟨z, fun o e => newI_keep hx hd e⟩, fun _ _ w => w⟩ fun u e => newI_keep hx hd e⟩
  nd := rl.nd
  off := rl.off
  fz := fun a z => by
    obtain ⟨o, e, y⟩ := rl.fz a z
    exact ⟨o, newI_keep hx hd e, y⟩
  tb := tb_up (fun c z => z) (fun b u e => newI_keep hx hd e) (fun b u e _ => newI_keep hx hd e) rl.tb
theorem Keep.newI (hx : H x = none) (hd : H dx = none) : Keep M H M (newI H C x dx) := ⟨fun a z => ⟨z, fun o e => newI_keep hx hd e⟩, fun _ _ w => w⟩
end
theorem lift_mkF {G : Gx} (gk : Gk G) {F : Fsem} {c : Nat} {C x dx : Addr} {ds : List D} {h : Hh} {M : Mp} {H : Hp} {vs : List V} {Wx : WX} {σ : St} {Qv : VK} (hm : G.mg (nmC c) = some (.ref C)) (rl : RL G h M H) (rd : RVs G M H ds vs) (k : KG (RV G) G Wx σ M H Qv (mkF c F ds h)) (hx : H x = none) (hd : H dx = none) (hne : dx ≠ x) :
    lift G F (.ref x :: vs) (newI H C x dx) (fun v H2 => v = .non ∧ Qv (.ref x) H2) (fun cls d H' => Wx cls d σ H') := by
  unfold mkF at k
  split at k
  · rename_i hn
    have x2 : newI H C x dx x = some (.ins C dx []) := upd_same
    have ro0 : RO G ⟨M.F, [x]⟩ (newI H C x dx) x (.ins c []) := ro_new hm x2
    have rl2 := rl.newI (C := C) gk hx hd
    refine ⟨.ref 0 :: ds, [.ins c []], ⟨M.F, [x]⟩, ⟨rfl, fun j u q => ?_, by simp, fun b z => ?_, rl2.fz, rl2.tb⟩, .cons (.ref rfl) (RVs.nr (b1 := M.bs) trivial hn (rd.keep gk (Keep.newI hx hd))), ?_⟩
    · cases j with
      | zero => simp at q; subst q; exact ⟨x, rfl, ro0⟩
      | succ j => simp at q
    · simp at z; subst z; exact rl.freeF hx
    have back : ∀ {M1 : Mp} {H1 : Hp} {o' : D} {hs : Hh}, Ext ⟨M.F, [x]⟩ (newI H C x dx) M1 H1 → RL G (o' :: hs) M1 H1 → Ext M H ⟨fun b => M1.F b ∨ b = x, M.bs⟩ H1 ∧ RL G h ⟨fun b => M1.F b ∨ b = x, M.bs⟩ H1 ∧ M1.bs[0]? = some x := by
      intro M1 H1 o' hs e r1
      have h0 : M1.bs[0]? = some x := e.get (i := 0) rfl
      have nx : x ∉ M.bs := rl.free hx
      have xm : x ∈ M1.bs := List.mem_iff_getElem?.mpr ⟨0, h0⟩
      have off : ∀ a ∈ M.bs, ¬ M1.F a := fun a ha z => by
        obtain ⟨u, q, y⟩ := rl.tracked ha
        have q2 : newI H C x dx a = some u := newI_keep hx hd q
        rcases e.newF a z with w | w | w | ⟨b, w⟩
        · exact rl.off a ha w
        · simp at w; subst w; exact nx ha
        · rw [q2] at w; cases w
        · rw [q2] at w; cases w.1; exact w.2 y
      have kp : ∀ b u, H b = some u → Stl u → H1 b = some u := fun b u q y => e.keep b u (newI_keep hx hd q) (fun w => by simp at w; subst w; rw [hx] at q; cases q) y
      have ex : Ext M H ⟨fun b => M1.F b ∨ b = x, M.bs⟩ H1 := ⟨fun b u q _ y => kp b u q y, fun b q => (Ext.newI (M := M) (C := C) hx hd).trk b (e.trk b q), fun b z => .inl (e.fz b z), ⟨[], by simp, by simp⟩, fun b z => by
        rcases z with z | z
        · rcases e.newF b z with w | w | w | ⟨y, w⟩
          · exact .inl w
          · simp at w; subst w; exact .inr (.inr (.inl hx))
          · exact .inr (.inr (.inl ((Ext.newI (M := M) (C := C) hx hd).trk b w)))
          · by_cases z1 : b = x
            · subst z1; exact .inr (.inr (.inl hx))
            · by_cases z2 : b = dx
              · subst z2; exact .inr (.inr (.inl hd))
              · rw [newI_ne z1 z2] at w; exact .inr (.inr (.inr ⟨y, w⟩))
        · subst z; exact .inr (.inr (.inl hx))⟩
      refine ⟨ex, ⟨rl.len, fun i o q => ?_, rl.nd, fun b hb z => ?_, fun b z => ?_, tb_up (fun c z => .inl z) (fun b u e => e) (fun b u e _ => e) r1.tb⟩, h0⟩
      · obtain ⟨a, ha, ro⟩ := rl.at_ i o q
        obtain ⟨u, hu, hy⟩ := ro.some
        exact ⟨a, ha, ro.keep gk (ex.kp rl) fun w z => kp a w z (by rw [hu] at z; cases z; exact hy)⟩
      · rcases z with z | z
        · exact off b hb z
        · subst z; exact nx hb
      · rcases z with z | z
        · exact r1.fz b z
        · subst z
          exact r1.tracked xm
    split at k
    · rename_i o1 hs q
      rw [q]
      split at k
      · rename_i hd1
        simp only [Bool.and_eq_true] at hd1
        intro v M1 H1 e r1 rv
        obtain ⟨e2, r2, h0⟩ := back e r1
        cases rv
        refine ⟨rfl, k (.ref x) _ H1 e2 r2 ?_⟩
        have ro : RO G M1 H1 x o1 := r1.look (i := 0) rfl h0
        have ro2 : RO G ⟨M1.F, M.bs⟩ H1 x o1 := RO.nr (b1 := M1.bs) trivial hd1.1 ro
        exact RO.fz (M := ⟨M1.F, M.bs⟩) gk (fun l z => by rw [z] at hd1; simp [isIns] at hd1) ro2
      · exact k.elim
    · rename_i e1 fs o1 hs q
      rw [q]
      split at k
      · rename_i hd1
        intro cls dd M1 H1 e r1 rx
        obtain ⟨e2, r2, h0⟩ := back e r1
        refine k cls dd _ H1 e2 r2 ?_
        have rx2 : RX G ⟨M1.F, M.bs⟩ H1 e1 fs cls dd := RX.nr (b1 := M1.bs) hd1 rx
        obtain ⟨Ce, g1, g2, g3⟩ := rx2
        refine ⟨Ce, g1, g2, ?_⟩
        cases dd with
        | none => exact g3
        | some d =>
          obtain ⟨g4, vs2, g5, g6⟩ := g3
          exact ⟨.inl g4, vs2, g5, RFs.keep gk (M := ⟨M1.F, M.bs⟩) (M' := ⟨fun b => M1.F b ∨ b = x, M.bs⟩) ⟨fun a z => ⟨Or.inl z, fun _ w => w⟩, fun _ _ w => w⟩ g6⟩
      · exact k.elim
    · exact k.elim
  · exact k.elim
theorem lift_mkH {G : Gx} (gk : Gk G) {F : Fsem} {c : Nat} {C x dx : Addr} {ds : List D} {h : Hh} {M : Mp} {H : Hp} {vs : List V} {Wx : WX} {σ : St} {Qv : VK} (hm : G.mg (nmC c) = some (.ref C)) (rl : RL G h M H) (rd : RVs G M H ds vs) (k : KG (RV G) G Wx σ M H Qv (mkH c F ds h)) (hx : H x = none) (hd : H dx = none) (hne : dx ≠ x) :
    lift G F (.ref x :: vs) (newI H C x dx) (fun v H2 => v = .non ∧ Qv (.ref x) H2) (fun cls d H' => Wx cls d σ H') := by
  unfold mkH at k
  have x2 : newI H C x dx x = some (.ins C dx []) := upd_same
  have rl2 := rl.newI (C := C) gk hx hd
  have nx : x ∉ M.bs := rl.free hx
  have rl3 := rl2.adopt gk nx (rl.freeF hx) (ro_new (c := c) hm x2)
  have e0 : Ext M H (M.pu x) (newI H C x dx) := (Ext.newI hx hd).adB hx
  have hl : (M.bs ++ [x])[h.length]? = some x := by rw [rl.len]; simp
  refine ⟨.ref h.length :: ds, h ++ [.ins c []], M.pu x, rl3, .cons (.ref hl) (rd.ext gk rl e0), ?_⟩
  split at k
  · rename_i h' q
    rw [q]
    intro v M1 H1 e r1 rv
    cases rv
    exact ⟨rfl, k _ M1 H1 (e0.trans e) r1 (.ref (e.get hl))⟩
  · rename_i c' fs h' q
    rw [q]
    exact fun cls dd M1 H1 e r1 rx => k cls dd M1 H1 (e0.trans e) r1 rx
  · exact k.elim
theorem pe_mk {X : Cx} {G : Gx} {ck : Ck} {k : Nat} {Wx : WX} {c : Nat} {F Fm : Fsem} {xs : List Xp} {a : Expr} (C : Cok X G ck k Wx) (h : callB (nmC c) xs ck a = true) (t : MkL (tbOf X G k) c F) (n : needA xs (tbOf X G k))
    (lf : ∀ {Ca x dx : Addr} {ds : List D} {h : Hh} {M : Mp} {H : Hp} {vs : List V} {σ : St} {Qv : VK}, G.mg (nmC c) = some (.ref Ca) → RL G h M H → RVs G M H ds vs → KG (RV G) G Wx σ M H Qv (Fm ds h) → H x = none → H dx = none → dx ≠ x → lift G F (.ref x :: vs) (newI H Ca x dx) (fun v H2 => v = .non ∧ Qv (.ref x) H2) (fun cls d H' => Wx cls d σ H')) :
    PE X a (tG (RV G) G Wx fun r h => (semA xs r h).bind fun ds h1 => Fm ds h1) := by
  obtain ⟨p, es, q, rfl, hg, ho⟩ := callB_some h
  obtain ⟨g1, g2, g3⟩ := gl_of C hg
  have t' := t
  obtain ⟨Ca, g, fd, ps, hm, mk, hb, Fo⟩ := t'
  dsimp only at hm mk
  have hm2 : X.mg (nmC c) = some (.ref Ca) := by rw [← C.hmg]; exact hm
  have kp : PySem.W.keepIn X.K (.ref Ca) = true := by rw [← C.hK]; exact mk.kp
  have hst := okA_star ho
  refine ⟨fun pins s σ H Qv I ⟨r, hh, M, rl, re, kk⟩ => wpAny_Call_Name_kw (ld_glob I g1 hm2 ?_ g2)⟩
  have fin : ∀ {H1 : Hp} {s1 : Shared} {vs : List V} {us : List Value}, Inv X pins σ H1 s1 → Vals vs us → (∃ ds h1 M1, RL G h1 M1 H1 ∧ RVs G M1 H1 ds vs ∧ KG (RV G) G Wx σ M1 H1 Qv (Fm ds h1)) → wpAny (model X.prog X.w) X.A (PySem.call (.ref Ca) us) (EP X pins σ Qv) X.xe s1 := by
    intro H1 s1 vs us I1 rv ⟨ds, h1, M1, r1, rd, w1⟩
    exact make_D C t hm2 I1 rv fun x dx e1 e2 e3 => lf hm r1 rd w1 e1 e2 e3
  cases es with
  | nil =>
    refine PySem.W.callWith_K0 I.kIn kp ?_
    cases xs with
    | nil => exact fin I .nil ⟨[], hh, M, rl, .nil, kk⟩
    | cons a b => simp [okA] at ho
  | cons e1 es =>
    simp only [List.all_cons, Bool.and_eq_true] at hst
    exact PySem.W.callWith_K (h₀ := X.base) I.ok.mod.kin kp (thn ((sndA xs C ho n).run q pins s σ H (fun vs H1 => ∃ ds h1 M1, RL G h1 M1 H1 ∧ RVs G M1 H1 ds vs ∧ KG (RV G) G Wx σ M1 H1 Qv (Fm ds h1)) I ⟨r, hh, M, rl, re, one kk fun d v h1 M1 H1 e1 r1 b1 k1 => ⟨d, h1, M1, r1, b1, k1⟩⟩) fun us s1 ⟨vs, H1, I1, r1, q⟩ => ⟨I1.kIn, fin I1 r1 q⟩) (star_cons hst.1 _) (stars_of hst.2)
/-- C(..), written no more -/
def Xp.mkF (c : Nat) (F : Fsem) (xs : List Xp) : Xp where
  sem r h := (semA xs r h).bind fun ds h1 => Pf.mkF c F ds h1
  ok := callB (nmC c) xs
  need t := MkL t c F ∧ needA xs t
  star _ a h := by obtain ⟨p, es, q, rfl, _⟩ := callB_some h; rfl
  snd C h n := pe_mk C h n.1 n.2 fun hm rl rd k e1 e2 e3 => lift_mkF C.gk hm rl rd k e1 e2 e3
/-- C(..), a thing of the heap -/
def Xp.mkH (c : Nat) (F : Fsem) (xs : List Xp) : Xp where
  sem r h := (semA xs r h).bind fun ds h1 => Pf.mkH c F ds h1
  ok := callB (nmC c) xs
  need t := MkL t c F ∧ needA xs t
  star _ a h := by obtain ⟨p, es, q, rfl, _⟩ := callB_some h; rfl
  snd C h n := pe_mk C h n.1 n.2 fun hm rl rd k e1 e2 e3 => lift_mkH C.gk hm rl rd k e1 e2 e3
end Pf

set_option Elab.async false
set_option linter.all false
set_option maxRecDepth 100000
set_option maxHeartbeats 4000000
/-! ## x * k of tuples and lists; displays with stars -/
namespace Pf
open PySem L2
theorem tuple_mul1 (l : Addr) (items : Array Value) (n : Nat) (dd : Option Addr) (sl : Array (Option Value)) (x : Int) (u : Tok) (c0 : (decide (x < -(2 ^ 63)) || decide (x ≥ 2 ^ 63)) = false) (c1 : (items.isEmpty || x == 1) = true) :
    Meets (Builtin.«tuple.__mul__» ⟨[.ref l, .int x u], []⟩) (fun _ R s => s.heap.get? l = some { cls := .type "tuple", dict := dd, data := .seq items n, slots := sl } ∧ R (.ok (.ret (Value.ref l))) s) :=
  .of_wp fun prog w A R s h => by
    obtain ⟨hp, g, d, tk, os⟩ := s
    obtain ⟨hl, h⟩ := h
    have f1 := AutoSeq1.idx_int
    wp_walk using wpAny_loadPart' hl
    repeat (first
      | (refine wpAny_ite_false (decide_eq_false (by rw [c0]; exact Bool.false_ne_true)) ?_; wp_walk using wpAny_loadPart' hl)
      | (refine wpAny_ite_true (decide_eq_true c1) ?_; wp_walk using wpAny_loadPart' hl))
    exact ⟨_, rfl, h⟩
theorem tuple_mul0 (l : Addr) (items : Array Value) (n : Nat) (dd : Option Addr) (sl : Array (Option Value)) (x : Int) (u : Tok) (c0 : (decide (x < -(2 ^ 63)) || decide (x ≥ 2 ^ 63)) = false) (c1 : (items.isEmpty || x == 1) = false) (c2 : (decide (x ≤ 0) || items.isEmpty) = true) :
    Meets (Builtin.«tuple.__mul__» ⟨[.ref l, .int x u], []⟩) (fun _ R s => s.heap.get? l = some { cls := .type "tuple", dict := dd, data := .seq items n, slots := sl } ∧ R (.ok (.ret (Value.ref s.heap.objs.size))) { s with heap := s.heap.push { cls := Value.type "tuple", data := Data.seq #[] }, toks := s.toks }) :=
  .of_wp fun prog w A R s h => by
    obtain ⟨hp, g, d, tk, os⟩ := s
    obtain ⟨hl, h⟩ := h
    have f1 := AutoSeq1.idx_int
    wp_walk using wpAny_loadPart' hl
    repeat (first
      | (refine wpAny_ite_false (decide_eq_false (by rw [c0]; exact Bool.false_ne_true)) ?_; wp_walk using wpAny_loadPart' hl)
      | (refine wpAny_ite_false (decide_eq_false (by rw [c1]; exact Bool.false_ne_true)) ?_; wp_walk using wpAny_loadPart' hl)
      | (refine wpAny_ite_true (decide_eq_true c2) ?_; wp_walk using wpAny_loadPart' hl)
      | (refine wpAny_ite_false (decide_eq_false (Nat.not_lt.mpr (Nat.zero_le _))) ?_; wp_walk using wpAny_loadPart' hl))
    exact ⟨_, rfl, h⟩
/-- t * k for every k -/
def rRepA (K : PySem.W.Frag) : R2 := fun x y H Q => ∃ l k xs, x = .ref l ∧ y = .int k ∧ SqT K H l xs ∧ -1000 ≤ k ∧ k ≤ 1000 ∧ xs.length ≤ 1000 ∧ ((xs = [] ∨ k = 1) → Q (.ref l) H) ∧ (xs ≠ [] → k ≠ 1 → ∀ p, H p = none → Q (.ref p) (upd H p (.tup (List.replicate k.toNat xs).flatten)))
theorem op_repA {X : Cx} : OpR X (binaryOp .Mult) (rRepA X.K) := by
  intro pins s σ H x y v u Q I rx ry h
  obtain ⟨l, k, xs, rfl, rfl, hT, h0, h1, hz, qs, qn⟩ := h
  by_cases big : xs ≠ [] ∧ 2 ≤ k
  · exact op_repT pins s σ H _ _ v u Q I rx ry ⟨l, k, xs, rfl, rfl, hT, big.1, big.2, h1, hz, qn big.1 (by omega)⟩
  cases rx
  obtain ⟨t, rfl⟩ := ry
  obtain ⟨its, r, ⟨⟨cls, dd, data, sl⟩, ho, hc, n, hd⟩, hs⟩ := I.tuple hT
  simp only at hc hd
  subst hc hd
  have hle : its.length = xs.length := r.length.symm
  have he : its.toArray.isEmpty = true ↔ xs = [] := by
    cases its with
    | nil => simp at hle; simp [List.eq_nil_of_length_eq_zero hle.symm]
    | cons a b =>
      cases xs with
      | nil => simp at hle
      | cons c d => simp
  have c0 : (decide (k < -(2 ^ 63)) || decide (k ≥ 2 ^ 63)) = false := by
    simp only [Bool.or_eq_false_iff, decide_eq_false_iff_not]; omega
  have road : ∀ {R : Value → Shared → Prop}, wpAny (model X.prog X.w) X.A (call (.builtin "tuple.__mul__") [.ref l, .int k t]) R X.xe s → wpAny (model X.prog X.w) X.A (binaryOp .Mult (.ref l) (.int k t)) R X.xe s := fun {R} z =>
    wpAny_binaryOp_repeat_ref (T := "tuple") (U := "int") (by decide) ⟨_, ho, rfl⟩ (fun s' => typeIs_int s' k t) noFill_tuple_mul F.fills_int_mul F.slot_int_rmul repeat_tuple F.slot_int_index.lookup
      (call_meets F.slot_int_rmul (typeIs_int s k t) F.entry_int_rmul (F.args_int_rmul_2 _ _) (int_rmul_tuple k t l its.toArray n dd sl) ⟨ho, rfl, ⟨_, ho, rfl⟩, z⟩)
  by_cases one : xs = [] ∨ k = 1
  · have c1 : (its.toArray.isEmpty || k == 1) = true := by
      rcases one with z | z
      · rw [he.mpr z]; rfl
      · subst z; simp
    exact road (call_meets F.slot_tuple_mul ⟨_, ho, rfl⟩ F.entry_tuple_mul (F.args_tuple_mul_2 _ _) (tuple_mul1 l its.toArray n dd sl k t c0 c1) ⟨ho, ⟨.ref l, H, I, rfl, qs one⟩⟩)
  · have hx : xs ≠ [] := fun z => one (.inl z)
    have hk : k ≠ 1 := fun z => one (.inr z)
    have hk0 : k ≤ 0 := by
      have : ¬ 2 ≤ k := fun z => big ⟨hx, z⟩
      omega
    have hi : its.toArray.isEmpty = false := by
      cases e : its.toArray.isEmpty with
      | false => rfl
      | true => exact absurd (he.mp e) hx
    have c1 : (its.toArray.isEmpty || k == 1) = false := by rw [hi, Bool.false_or]; exact beq_eq_false_iff_ne.mpr hk
    have c2 : (decide (k ≤ 0) || its.toArray.isEmpty) = true := by rw [decide_eq_true hk0]; rfl
    have hn : (List.replicate k.toNat xs).flatten = [] := by rw [show k.toNat = 0 by omega]; rfl
    refine road (call_meets F.slot_tuple_mul ⟨_, ho, rfl⟩ F.entry_tuple_mul (F.args_tuple_mul_2 _ _) (tuple_mul0 l its.toArray n dd sl k t c0 c1 c2) ⟨ho, ?_⟩)
    have qq := qn hx hk s.heap.objs.size (I.hok.fresh (Nat.le_refl _))
    rw [hn] at qq
    exact ⟨.ref s.heap.objs.size, _, I.laid (t' := s.toks) (o := .tup []) (fun b ob q => Heap.get?_push_of_some _ q) (Nat.le_refl _) ⟨Nat.zero_le _, [], .nil, PyProof.Rows.IsTup.new _ _⟩, rfl, qq⟩
def mulE (a b : D) : Option D := match a, b with
  | .int i, .int j => binE .Mult (.int i) (.int j)
  | .tup l, .int k => if -1000 ≤ k ∧ k ≤ 1000 ∧ l.length ≤ 1000 then some (.tup (List.replicate k.toNat l).flatten) else none
  | .lst l, .int k => if -1000 ≤ k ∧ k ≤ 1000 ∧ l.length ≤ 1000 then some (.lst (List.replicate k.toNat l).flatten) else none
  | _, _ => none
theorem RVs.rep {G : Gx} {M : Mp} {H : Hp} {l : List D} {vs : List V} (r : RVs G M H l vs) : ∀ n : Nat, RVs G M H (List.replicate n l).flatten (List.replicate n vs).flatten
  | 0 => .nil
  | n + 1 => by
    simp only [List.replicate_succ, List.flatten_cons]
    exact r.append (RVs.rep r n)
theorem len_rep {α : Type} {l : List α} {k : Int} (h : k ≤ 1000) (hl : l.length ≤ 1000) : l.length * k.toNat ≤ sizeLine := by
  rw [sizeLine_eq]
  have a1 : l.length * k.toNat ≤ 1000 * 1000 := Nat.mul_le_mul hl (by omega)
  omega
/-- the reading of * at a tuple or a list; new: the list is a new thing -/
theorem op_mulA {X : Cx} {G : Gx} (gk : Gk G) (hK : G.K = X.K) : OpR X (binaryOp .Mult) (rD G mulE) := by
  intro pins s σ H x y v u Qv I rx ry ⟨d', e', h, M, z, rl, bd, be, ez, k⟩
  obtain ⟨d, e, ed, ee, w⟩ := on2_some ez
  have rd := vw_ok rl bd ed
  have re := vw_ok rl be ee
  unfold mulE at w
  split at w
  · exact op_bin gk hK .Mult pins s σ H x y v u Qv I rx ry ⟨d', e', h, M, z, rl, bd, be, by unfold on2; rw [ed, ee]; exact w, k⟩
  · split at w
    · rename_i hk
      cases w
      cases re.rv trivial
      cases rd.rv trivial with
      | tup h1 r1 =>
        refine op_repA pins s σ H _ _ v u Qv I rx ry ⟨_, _, _, rfl, rfl, h1.sq hK, hk.1, hk.2.1, by rw [← r1.length]; exact hk.2.2, fun z => ?_, fun _ _ p hp => k.newTup gk rl (r1.rep _) p hp⟩
        rcases z with z | z
        · subst z
          cases r1
          simp only [List.flatten_replicate_nil] at k
          exact k.here rl (.tup h1 .nil)
        · subst z
          simp only [show (1 : Int).toNat = 1 from rfl, List.replicate_succ, List.replicate_zero, List.flatten_cons, List.flatten_nil, List.append_nil] at k
          exact k.here rl (.tup h1 r1)
    · cases w
  · split at w
    · rename_i hk
      cases w
      cases re.rv trivial
      obtain ⟨p, vs, rfl, h1, r1⟩ := rd.lst
      refine op_rep pins s σ H _ _ v u Qv I rx ry ⟨_, _, _, rfl, rfl, h1, by omega, by omega, len_rep hk.2.1 (by rw [← r1.length]; exact hk.2.2), fun p hp => k.newList gk rl (r1.rep _) p hp⟩
    · cases w
  · cases w
/-- x * y, of ints, of a sequence and an int -/
def Xp.mul (x y : Xo) : Xp where
  sem r h := (x.sem r h).bind fun d h1 => (y.sem r h1).bind fun e h2 => ofO (on2 mulE h2 d e) h2
  ok ck a := match a with
    | .BinOp u .Mult v _ => x.ok ck u && y.ok ck v
    | _ => false
  need t := x.need t ∧ y.need t
  star _ a h := by cases a <;> first | rfl | (simp at h)
  snd {X G ck k Wx a} C h n := by
    split at h
    · simp only [Bool.and_eq_true] at h
      exact PE.imp (pe_op (op_mulA C.gk C.hK) (x.snd C h.1 n.1) (y.snd C h.2 n.2)) fun σ H Qv ⟨r, h, M, rl, re, k⟩ => ⟨r, h, M, rl, re, one k fun d v h1 M1 H1 e1 r1 b1 k1 =>
        ⟨r, h1, M1, r1, re.ext C.gk rl e1, one k1 fun e u h2 M2 H2 e2 r2 b2 k2 => fin2 k2 r2 (b1.ext C.gk r1 e2) b2⟩⟩
    · cases h
/-- [..] * k as a new thing -/
def Xn.rep (x : Xo) (y : Xo) : Xn where
  sem r h := (x.sem r h).bind fun d h1 => (y.sem r h1).bind fun e h2 => match vw h2 d, vw h2 e with
    | some (.lst l), some (.int k) => if -1000 ≤ k ∧ k ≤ 1000 ∧ l.length ≤ 1000 then .ok (.lst (List.replicate k.toNat l).flatten) h2 else .no
    | _, _ => .no
  ok ck a := match a with
    | .BinOp u .Mult v _ => x.ok ck u && y.ok ck v
    | _ => false
  need t := x.need t ∧ y.need t
  star _ a h := by cases a <;> first | rfl | (simp at h)
  snd {X G ck k Wx a} C h n := by
    split at h
    · simp only [Bool.and_eq_true] at h
      refine PE.imp (pe_op op_rep (x.snd C h.1 n.1) (y.snd C h.2 n.2)) fun σ H Qv ⟨r, h, M, rl, re, k⟩ => ⟨r, h, M, rl, re, one k fun d v h1 M1 H1 e1 r1 b1 k1 =>
        ⟨r, h1, M1, r1, re.ext C.gk rl e1, one k1 fun e u h2 M2 H2 e2 r2 b2 k2 => ?_⟩⟩
      try dsimp only at k2
      split at k2
      · rename_i l kk q1 q2
        split at k2
        · rename_i hk
          obtain ⟨p, vs, rfl, h1, rv⟩ := (vw_ok r2 (b1.ext C.gk r1 e2) q1).lst
          cases (vw_ok r2 b2 q2).rv trivial
          exact ⟨_, _, _, rfl, rfl, h1, by omega, by omega, len_rep hk.2.1 (by rw [← rv.length]; exact hk.2.2), fun p hp => kn_list C.gk (e1.trans e2) r2 (rv.rep _) k2 p hp⟩
        · exact k2.elim
      · exact k2.elim
    · cases h

/-! ### displays with stars -/
abbrev Xs := Xp ⊕ Xo
def semS : List Xs → Rho → Hh → Res (List D)
  | [], _, h => .ok [] h
  | .inl x :: xs, r, h => (x.sem r h).bind fun d h1 => (semS xs r h1).bind fun ds h2 => .ok (d :: ds) h2
  | .inr x :: xs, r, h => (x.sem r h).bind fun d h1 => (ofO (on1 items h1 d) h1).bind fun l h1 => (semS xs r h1).bind fun ds h2 => .ok (l ++ ds) h2
def okS : List Xs → Ck → List Expr → Bool
  | [], _, es => es.isEmpty
  | .inl x :: xs, ck, es => match es with
    | e :: r => x.ok ck e && okS xs ck r
    | [] => false
  | .inr x :: xs, ck, es => match es with
    | .Starred e _ :: r => x.ok ck e && okS xs ck r
    | _ => false
def needS : List Xs → Tb → Prop
  | [], _ => True
  | .inl x :: xs, t => x.need t ∧ needS xs t
  | .inr x :: xs, t => x.need t ∧ needS xs t
theorem sndS : ∀ (xs : List Xs) {X : Cx} {G : Gx} {ck : Ck} {k : Nat} {Wx : WX} {es : List Expr}, Cok X G ck k Wx → okS xs ck es = true → needS xs (tbOf X G k) → PA X es (tG (RVs G) G Wx (semS xs))
  | [], X, G, ck, k, Wx, es, C, h, n => by
    cases es with
    | cons a b => simp [okS] at h
    | nil => exact PA.imp pa_nil fun σ H Qv ⟨r, h, M, rl, re, k⟩ => k.here rl .nil
  | .inl x :: xs, X, G, ck, k, Wx, es, C, h, n => by
    cases es with
    | nil => simp [okS] at h
    | cons a b =>
      simp only [okS, Bool.and_eq_true] at h
      exact PA.imp (pa_cons (x.snd C h.1 n.1) (sndS xs C h.2 n.2) (star_cons (x.star _ _ h.1) _)) fun σ H Qv ⟨r, h, M, rl, re, k⟩ => ⟨r, h, M, rl, re, one k fun d v h1 M1 H1 e1 r1 b1 k1 =>
        ⟨r, h1, M1, r1, re.ext C.gk rl e1, one k1 fun e u h2 M2 H2 e2 r2 b2 k2 => k2.here r2 (.cons (b1.ext C.gk r1 e2) b2)⟩⟩
  | .inr x :: xs, X, G, ck, k, Wx, es, C, h, n => by
    unfold okS at h
    split at h
    · simp only [Bool.and_eq_true] at h
      refine PA.imp (StX.pa_star (x.snd C h.1 n.1) (sndS xs C h.2 n.2)) fun σ H Qv ⟨r, h, M, rl, re, k⟩ => ⟨r, h, M, rl, re, one k fun d v h1 M1 H1 e1 r1 b1 k1 => ?_⟩
      unfold on1 at k1
      cases q1 : vw h1 d with
      | none => rw [q1] at k1; exact k1.elim
      | some d' =>
        rw [q1] at k1
        simp only [Option.bind_some] at k1
        cases q2 : items d' with
        | none => rw [q2] at k1; exact k1.elim
        | some l =>
          rw [q2] at k1
          simp only [ofO_some, bind_ok] at k1
          obtain ⟨p, vs, rfl, rv, sq⟩ := (vw_ok r1 b1 q1).seq C.hK q2
          refine ⟨p, vs, rfl, ?_, r, h1, M1, r1, re.ext C.gk rl e1, one k1 fun e u h2 M2 H2 e2 r2 b2 k2 => k2.here r2 ((rv.ext C.gk r1 e2).append b2)⟩
          rcases sq with ⟨q, _⟩ | ⟨q, _⟩
          · exact .inr q
          · exact .inl q
    · cases h
/-- (.., *x, ..) -/
def Xp.tupS (xs : List Xs) : Xp where
  sem r h := (semS xs r h).bind fun ds h1 => if ds.length ≤ line then .ok (.tup ds) h1 else .no
  ok ck a := match a with
    | .Tuple es _ _ => okS xs ck es
    | _ => false
  need := needS xs
  star _ a h := by cases a <;> first | rfl | (simp at h)
  snd {X G ck k Wx a} C h n := by
    split at h
    · refine PE.imp (pe_tup (sndS xs C h n)) fun σ H Qv ⟨r, h, M, rl, re, k⟩ => ⟨r, h, M, rl, re, one k fun d v h1 M1 H1 e1 r1 b1 k1 => ?_⟩
      split at k1
      · rename_i hl
        exact ⟨by rw [← b1.length, ← line_eq]; exact hl, fun p hp => KP.newTup C.gk k1 r1 b1 p hp⟩
      · exact k1.elim
    · cases h
def Xn.lstS (xs : List Xs) : Xn where
  sem r h := (semS xs r h).bind fun ds h1 => if ds.length ≤ line then .ok (.lst ds) h1 else .no
  ok ck a := match a with
    | .List es _ => okS xs ck es
    | _ => false
  need := needS xs
  star _ a h := by cases a <;> first | rfl | (simp at h)
  snd {X G ck k Wx a} C h n := by
    split at h
    · refine PE.imp (pe_lst (sndS xs C h n)) fun σ H Qv ⟨r, h, M, rl, re, k⟩ => ⟨r, h, M, rl, re, one k fun d v h1 M1 H1 e1 r1 b1 k1 => ?_⟩
      split at k1
      · rename_i hl
        exact ⟨by rw [← b1.length, ← line_eq]; exact hl, fun p hp => kn_list C.gk e1 r1 b1 k1 p hp⟩
      · exact k1.elim
    · cases h
end Pf

set_option Elab.async false
set_option linter.all false
/-! ## What the bundles compute, as equations -/
namespace Pf
open PySem L2
section
variable {r : Rho} {h : Hh}
@[simp] theorem m_v {i : Nat} : (Xp.v i).sem r h = match r[i]? with
    | some (.pl d) => .ok d h
    | _ => .no := rfl
@[simp] theorem mo_v {i : Nat} : (Xo.v i).sem r h = match r[i]? with
    | some (.pl d) => .ok d h
    | some (.ow d) => .ok d h
    | _ => .no := rfl
@[simp] theorem mo_o {x : Xp} : x.o.sem r h = x.sem r h := rfl
@[simp] theorem m_c {d : D} : (Xp.c d).sem r h = .ok d h := rfl
@[simp] theorem m_g {y : Str} {d : D} : (Xp.g y d).sem r h = .ok d h := rfl
@[simp] theorem m_neg {x : Xp} : (Xp.neg x).sem r h = (x.sem r h).bind fun d h1 => match d with
    | .int i => .ok (.int (-i)) h1
    | _ => .no := rfl
@[simp] theorem m_bin {o : Operator} {x y : Xo} : (Xp.bin o x y).sem r h = (x.sem r h).bind fun d h1 => (y.sem r h1).bind fun e h2 => ofO (on2 (binE o) h2 d e) h2 := rfl
@[simp] theorem m_mul {x y : Xo} : (Xp.mul x y).sem r h = (x.sem r h).bind fun d h1 => (y.sem r h1).bind fun e h2 => ofO (on2 mulE h2 d e) h2 := rfl
@[simp] theorem m_cmp {o : CmpOp} {x y : Xo} : (Xp.cmp o x y).sem r h = (x.sem r h).bind fun d h1 => (y.sem r h1).bind fun e h2 => ofB (on2 (cmpE o) h2 d e) h2 := rfl
@[simp] theorem mt_cmp {o : CmpOp} {x y : Xo} : (Xt.cmp o x y).sem r h = (x.sem r h).bind fun d h1 => (y.sem r h1).bind fun e h2 => ofO (on2 (cmpE o) h2 d e) h2 := rfl
@[simp] theorem mt_e {x : Xo} : (Xt.e x).sem r h = (x.sem r h).bind fun d h1 => ofO (on1 truE h1 d) h1 := rfl
@[simp] theorem mt_not {x : Xt} : (Xt.not x).sem r h = (x.sem r h).bind fun d h1 => .ok (!d) h1 := rfl
@[simp] theorem mt_and {x y : Xt} : (Xt.and x y).sem r h = (x.sem r h).bind fun d h1 => if d then y.sem r h1 else .ok false h1 := rfl
@[simp] theorem mt_or {x y : Xt} : (Xt.or x y).sem r h = (x.sem r h).bind fun d h1 => if d then .ok true h1 else y.sem r h1 := rfl
@[simp] theorem m_and {x y : Xp} : (Xp.and x y).sem r h = (x.sem r h).bind fun d h1 => match d with
    | .bl true => y.sem r h1
    | .bl false => .ok (.bl false) h1
    | _ => .no := rfl
@[simp] theorem m_or {x y : Xp} : (Xp.or x y).sem r h = (x.sem r h).bind fun d h1 => match d with
    | .bl false => y.sem r h1
    | .bl true => .ok (.bl true) h1
    | _ => .no := rfl
@[simp] theorem m_not {x : Xp} : (Xp.not x).sem r h = (x.sem r h).bind fun d h1 => match d with
    | .bl b => .ok (.bl (!b)) h1
    | _ => .no := rfl
@[simp] theorem m_ite {t : Xt} {x y : Xp} : (Xp.ite t x y).sem r h = (t.sem r h).bind fun d h1 => if d then x.sem r h1 else y.sem r h1 := rfl
@[simp] theorem m_chain {o p : CmpOp} {x y z : Xo} : (Xp.chain o p x y z).sem r h = chainS o p x y z r h := rfl
@[simp] theorem mt_chain {o p : CmpOp} {x y z : Xo} : (Xt.chain o p x y z).sem r h = (chainS o p x y z r h).bind fun d h1 => ofO (toB d) h1 := rfl
@[simp] theorem m_ix {x y : Xo} : (Xp.ix x y).sem r h = (x.sem r h).bind fun d h1 => (y.sem r h1).bind fun e h2 => ofO (on2 ixE h2 d e) h2 := rfl
@[simp] theorem m_sl {x : Xo} {lo hi : Option Xp} : (Xp.sl x lo hi).sem r h = (x.sem r h).bind fun d h1 => (semO lo r h1).bind fun l h2 => (semO hi r h2).bind fun u h3 => ofO (on1 (slE · l u) h3 d) h3 := rfl
@[simp] theorem m_tup {xs : List Xp} : (Xp.tup xs).sem r h = (semA xs r h).bind fun ds h1 => if ds.length ≤ line then .ok (.tup ds) h1 else .no := rfl
@[simp] theorem m_tupS {xs : List Xs} : (Xp.tupS xs).sem r h = (semS xs r h).bind fun ds h1 => if ds.length ≤ line then .ok (.tup ds) h1 else .no := rfl
@[simp] theorem m_fz {x : Xn} : (Xp.fz x).sem r h = x.sem r h := rfl
@[simp] theorem m_hp {x : Xn} : (Xp.hp x).sem r h = (x.sem r h).bind fun d h1 => .ok (.ref h1.length) (h1 ++ [d]) := rfl
@[simp] theorem mn_lst {xs : List Xp} : (Xn.lst xs).sem r h = (semA xs r h).bind fun ds h1 => if ds.length ≤ line then .ok (.lst ds) h1 else .no := rfl
@[simp] theorem mn_lstS {xs : List Xs} : (Xn.lstS xs).sem r h = (semS xs r h).bind fun ds h1 => if ds.length ≤ line then .ok (.lst ds) h1 else .no := rfl
@[simp] theorem mn_lc {e : Xp} {t : Tg} {it : Ib} {ifs : Option Xt} {own : List (Str × Nat)} : (Xn.lc e t it ifs own).sem r h = lcSem e t it ifs own r h := rfl
@[simp] theorem mn_bi {f : Bn} {xs : List Xo} : (Xn.bi f xs).sem r h = (semB xs r h).bind fun ds h1 => ofO (onL (bnE f) h1 ds) h1 := rfl
@[simp] theorem m_bi {f : Bi} {xs : List Xo} : (Xp.bi f xs).sem r h = (semB xs r h).bind fun ds h1 => ofO (onL (biE f) h1 ds) h1 := rfl
@[simp] theorem m_isi {c : Kd} {x : Xo} : (Xp.isi c x).sem r h = (x.sem r h).bind fun d h1 => ofB (on1 (isE c) h1 d) h1 := rfl
@[simp] theorem m_call {f : Str} {F : Fsem} {xs : List Xp} : (Xp.call f F xs).sem r h = (semA xs r h).bind fun ds h1 => F ds h1 := rfl
@[simp] theorem m_at {c f : Nat} {x : Xo} : (Xp.at c f x).sem r h = (x.sem r h).bind fun d h1 => ofO (on1 (fldE c f) h1 d) h1 := rfl
@[simp] theorem m_prop {c : Nat} {f : Str} {F : Fsem} {x : Xp} : (Xp.prop c f F x).sem r h = (x.sem r h).bind fun d h1 => match vw h1 d with
    | some d' => if isIns c d' then noX (F [d] h1) else .no
    | none => .no := rfl
@[simp] theorem m_mc {c : Nat} {m : Str} {F : Fsem} {o : Xp} {xs : List Xp} : (Xp.mc c m F o xs).sem r h = (o.sem r h).bind fun d h1 => match vw h1 d with
    | some d' => if isIns c d' then (semA xs r h1).bind fun ds h2 => F (d :: ds) h2 else .no
    | none => .no := rfl
@[simp] theorem m_mkF {c : Nat} {F : Fsem} {xs : List Xp} : (Xp.mkF c F xs).sem r h = (semA xs r h).bind fun ds h1 => mkF c F ds h1 := rfl
@[simp] theorem m_mkH {c : Nat} {F : Fsem} {xs : List Xp} : (Xp.mkH c F xs).sem r h = (semA xs r h).bind fun ds h1 => mkH c F ds h1 := rfl
@[simp] theorem mi_seq {x : Xp} : (Ib.seq x).sem r h = (x.sem r h).bind fun d h1 => ofO (items d) h1 := rfl
@[simp] theorem mi_r1 {x : Xp} : (Ib.r1 x).sem r h = (x.sem r h).bind fun d h1 => match d with
    | .int j => if rngOk j then .ok ((List.range j.toNat).map fun (k : Nat) => D.int (k : Int)) h1 else .no
    | _ => .no := rfl
@[simp] theorem mi_r2 {x y : Xp} : (Ib.r2 x y).sem r h = (x.sem r h).bind fun d h1 => (y.sem r h1).bind fun e h2 => match d, e with
    | .int i, .int j => if rngOk i && rngOk j then .ok ((List.range (j - i).toNat).map fun (k : Nat) => D.int (i + (k : Int))) h2 else .no
    | _, _ => .no := rfl
@[simp] theorem ms_asg {t : Tg} {x : Xp} : (Sm.asg t x).sem r h = (x.sem r h).st r fun d h1 => ofP (t.put d r) h1 := rfl
@[simp] theorem ms_asgO {i : Nat} {x : Xn} : (Sm.asgO i x).sem r h = (x.sem r h).st r fun d h1 => .nx (r.set i (.ow d)) h1 := rfl
@[simp] theorem ms_asgLc {i : Nat} {e : Xp} {t : Tg} {it : Ib} {ifs : Option Xt} {own : List (Str × Nat)} : (Sm.asgLc i e t it ifs own).sem r h = (lcSem e t it ifs own r h).st r fun d h1 => .nx (r.set i (.pl d)) h1 := rfl
@[simp] theorem ms_asgOLc {i : Nat} {e : Xp} {t : Tg} {it : Ib} {ifs : Option Xt} {own : List (Str × Nat)} : (Sm.asgOLc i e t it ifs own).sem r h = (lcSem e t it ifs own r h).st r fun d h1 => .nx (r.set i (.ow d)) h1 := rfl
@[simp] theorem ms_ex {x : Xp} : (Sm.ex x).sem r h = (x.sem r h).st r fun _ h1 => .nx r h1 := rfl
@[simp] theorem ms_ret {x : Xp} : (Sm.ret x).sem r h = (x.sem r h).st r fun d h1 => .rt d h1 := rfl
@[simp] theorem ms_retN : Sm.retN.sem r h = .rt .non h := rfl
@[simp] theorem ms_pass : Sm.pass.sem r h = .nx r h := rfl
@[simp] theorem ms_doc : Sm.doc.sem r h = .nx r h := rfl
@[simp] theorem ms_brk : Sm.brk.sem r h = .bk r h := rfl
@[simp] theorem ms_cont : Sm.cont.sem r h = .ct r h := rfl
@[simp] theorem ms_nev : Sm.nev.sem r h = .no := rfl
@[simp] theorem ms_ife {t : Xt} {a b : List Si} : (Sm.ife t a b).sem r h = (t.sem r h).st r fun c h1 => if c then semSs a r h1 else semSs b r h1 := rfl
@[simp] theorem ms_for {t : Tg} {it : Ib} {b : List Si} : (Sm.for_ t it b).sem r h = (it.sem r h).st r fun xs h1 => forGo t (semSs b) xs r h1 := rfl
@[simp] theorem ms_whl {n : Nat} {t : Xt} {b : List Si} : (Sm.whl n t b).sem r h = whGo t.sem (semSs b) n r h := rfl
@[simp] theorem ms_par {is : List Nat} {xs : List Xa} : (Sm.par is xs).sem r h = (semX xs r h).st r fun ds h1 => ofP (setsX is ds r) h1 := rfl
@[simp] theorem ms_app {j : Nat} {x : Xp} : (Sm.app j x).sem r h = match r[j]? with
    | some (.ow (.lst l)) => (x.sem r h).st r fun d h1 => if l.length < line then .nx (r.set j (.ow (.lst (l ++ [d])))) h1 else .no
    | _ => .no := rfl
@[simp] theorem ms_setO {j : Nat} {i e : Xp} : (Sm.setO j i e).sem r h = (e.sem r h).st r fun d h1 => match r[j]? with
    | some (.ow (.lst l)) => (i.sem r h1).st r fun k h2 => (match k with
      | .int k => (match ixNat l.length k with
        | some m => .nx (r.set j (.ow (.lst (l.set m d)))) h2
        | none => .no)
      | _ => .no)
    | _ => .no := rfl
@[simp] theorem ms_setH {o i e : Xp} : (Sm.setH o i e).sem r h = (e.sem r h).st r fun d h1 => (o.sem r h1).st r fun x h2 => (i.sem r h2).st r fun k h3 => match x, k with
    | .ref p, .int k => (match h3[p]? with
      | some (.lst l) => (match ixNat l.length k with
        | some m => .nx r (h3.set p (.lst (l.set m d)))
        | none => .no)
      | _ => .no)
    | _, _ => .no := rfl
@[simp] theorem ms_setA {c f : Nat} {o e : Xp} : (Sm.setA c f o e).sem r h = (e.sem r h).st r fun d h1 => (o.sem r h1).st r fun x h2 => match x with
    | .ref i => (match h2[i]? with
      | some (.ins c' fs) => if c' = c ∧ fs.length < 900 then .nx r (h2.set i (.ins c (putD f d fs))) else .no
      | _ => .no)
    | _ => .no := rfl
end
/-! pure operations at known data -/
@[simp] theorem vw_non {h : Hh} : vw h .non = some .non := rfl
@[simp] theorem vw_bl {h : Hh} {b : Bool} : vw h (.bl b) = some (.bl b) := rfl
@[simp] theorem vw_int {h : Hh} {i : Int} : vw h (.int i) = some (.int i) := rfl
@[simp] theorem vw_str {h : Hh} {x : List Nat} : vw h (.str x) = some (.str x) := rfl
@[simp] theorem vw_tup {h : Hh} {l : List D} : vw h (.tup l) = some (.tup l) := rfl
@[simp] theorem vw_lst {h : Hh} {l : List D} : vw h (.lst l) = some (.lst l) := rfl
@[simp] theorem vw_lsc {h : Hh} {l : List D} : vw h (.lsc l) = some (.lsc l) := rfl
@[simp] theorem vw_ins {h : Hh} {c : Nat} {l : List (Nat × D)} : vw h (.ins c l) = some (.ins c l) := rfl
@[simp] theorem vw_ref {h : Hh} {i : Nat} : vw h (.ref i) = h[i]? := rfl
theorem eqE_int (i j : Int) : eqE (.int i) (.int j) = some (decide (i = j)) := by
  simp only [eqE, dep, pd, PyData.eqv, Bool.and_self, if_true]
  rfl
theorem tS_beq (x y : List Nat) : (tS x == tS y) = decide (x = y) := by
  by_cases h : x = y
  · subst h; simp
  · have : tS x ≠ tS y := fun z => h (tS_inj z)
    simp [h, this]
def chk (x : List Nat) : Bool := x.all fun c => decide (c < 1114112)
theorem eqE_str (x y : List Nat) (hx : chk x = true) (hy : chk y = true) : eqE (.str x) (.str y) = some (decide (x = y)) := by
  unfold chk at hx hy
  simp only [eqE, dep, hx, hy, Bool.and_self, if_true, pd, PyData.eqv, tS_beq]
theorem cmp_eq_int {i j : Int} : cmpE .Eq (.int i) (.int j) = some (decide (i = j)) := eqE_int i j
theorem cmp_ne_int {i j : Int} : cmpE .NotEq (.int i) (.int j) = some (!decide (i = j)) := by unfold cmpE; rw [eqE_int]; rfl
@[simp] theorem cmp_lt_int {i j : Int} : cmpE .Lt (.int i) (.int j) = some (decide (i < j)) := rfl
@[simp] theorem cmp_le_int {i j : Int} : cmpE .LtE (.int i) (.int j) = some (decide (i ≤ j)) := rfl
@[simp] theorem cmp_gt_int {i j : Int} : cmpE .Gt (.int i) (.int j) = some (decide (j < i)) := rfl
@[simp] theorem cmp_ge_int {i j : Int} : cmpE .GtE (.int i) (.int j) = some (decide (j ≤ i)) := rfl
@[simp] theorem cmp_is {a : D} : cmpE .Is a .non = some (isNonD a) := rfl
@[simp] theorem cmp_isnot {a : D} : cmpE .IsNot a .non = some (!isNonD a) := rfl
theorem cmp_eq_str {x y : List Nat} (hx : chk x = true) (hy : chk y = true) : cmpE .Eq (.str x) (.str y) = some (decide (x = y)) := eqE_str x y hx hy
theorem cmp_ne_str {x y : List Nat} (hx : chk x = true) (hy : chk y = true) : cmpE .NotEq (.str x) (.str y) = some (!decide (x = y)) := by unfold cmpE; rw [eqE_str x y hx hy]; rfl

/-! how steps go on behind two ways -/
@[simp] theorem ite_bind {α β : Type} {c : Prop} [Decidable c] {a b : Res α} {f : α → Hh → Res β} : (if c then a else b).bind f = if c then a.bind f else b.bind f := by split <;> rfl
@[simp] theorem ite_st {α : Type} {c : Prop} [Decidable c] {a b : Res α} {r : Rho} {f : α → Hh → Out} : (if c then a else b).st r f = if c then a.st r f else b.st r f := by split <;> rfl
@[simp] theorem ite_then {c : Prop} [Decidable c] {a b : Out} {f : Rho → Hh → Out} : (if c then a else b).then f = if c then a.then f else b.then f := by split <;> rfl
@[simp] theorem ite_outR {c : Prop} [Decidable c] {a b : Out} : outR (if c then a else b) = if c then outR a else outR b := by split <;> rfl
@[simp] theorem ite_noX {α : Type} {c : Prop} [Decidable c] {a b : Res α} : noX (if c then a else b) = if c then noX a else noX b := by split <;> rfl
@[simp] theorem outR_nx {r : Rho} {h : Hh} : outR (.nx r h) = .ok .non h := rfl
@[simp] theorem outR_rt {d : D} {h : Hh} : outR (.rt d h) = .ok d h := rfl
@[simp] theorem outR_exc {c : Nat} {fs : List (Nat × D)} {r : Rho} {h : Hh} : outR (.exc c fs r h) = .exc c fs h := rfl
@[simp] theorem outR_no : outR .no = .no := rfl
/-- the end of a def without the heap -/
def pureR (h : Hh) : Res D → Res D
  | .ok d _ => if nr d then .ok d h else .no
  | .exc c fs _ => if nrf fs then .exc c fs h else .no
  | .no => .no
@[simp] theorem pureR_ok {h h' : Hh} {d : D} : pureR h (.ok d h') = if nr d then .ok d h else .no := rfl
@[simp] theorem pureR_exc {h h' : Hh} {c : Nat} {fs : List (Nat × D)} : pureR h (.exc c fs h') = if nrf fs then .exc c fs h else .no := rfl
@[simp] theorem pureR_no {h : Hh} : pureR h .no = .no := rfl
@[simp] theorem ite_pureR {c : Prop} [Decidable c] {a b : Res D} {h : Hh} : pureR h (if c then a else b) = if c then pureR h a else pureR h b := by split <;> rfl
theorem pure_eq {F : Fsem} {ds : List D} {h : Hh} (hn : nrs ds = true) : pureOf F ds h = pureR h (F ds []) := by
  unfold pureOf
  rw [if_pos hn]
  cases F ds [] <;> rfl
theorem fnF_eq {n m : Nat} {b : List Si} {ds : List D} {h : Hh} (hl : ds.length = m) : fnF n m b ds h = outR (semSs b (startR n ds) h) := by
  unfold fnF
  rw [if_pos hl]
/-- a def without the heap, by what its body does -/
theorem pure_of {n m : Nat} {b : List Si} {ds : List D} {h h' : Hh} {d : D} (hn : nrs ds = true) (hl : ds.length = m) (hd : nr d = true) (e : outR (semSs b (startR n ds) []) = .ok d h') : pureOf (fnF n m b) ds h = .ok d h := by
  rw [pure_eq hn, fnF_eq hl, e]
  simp [hd]
/-- a def that gets one thing of the heap, by what its body does -/
theorem row_of {n m : Nat} {b : List Si} {ds : List D} {h h' : Hh} {i : Nat} {o o' d : D} (hi : h[i]? = some o) (ho : nr o = true) (hn : nrs ds = true) (hl : ds.length + 1 = m) (hd : nr d = true) (ho' : nr o' = true) (e : outR (semSs b (startR n (.ref 0 :: ds)) [o]) = .ok d (o' :: h')) :
    rowOf (fnF n m b) (.ref i :: ds) h = .ok d (h.set i o') := by
  unfold rowOf
  simp only [hi, ho, hn, Bool.and_self, if_true]
  rw [fnF_eq (by simpa using hl), e]
  simp [hd, ho']
@[simp] theorem ss_nil {r : Rho} {h : Hh} : semSs [] r h = .nx r h := rfl
@[simp] theorem ss_s {x : Sm} {l : List Si} {r : Rho} {h : Hh} : semSs (.s x :: l) r h = (x.sem r h).then (semSs l) := rfl
@[simp] theorem ss_frz {i : Nat} {l : List Si} {r : Rho} {h : Hh} : semSs (.frz i :: l) r h = semSs l (frzR i r) h := rfl
@[simp] theorem ss_kill {ks : List Nat} {l : List Si} {r : Rho} {h : Hh} : semSs (.kill ks :: l) r h = semSs l (killR ks r) h := rfl
theorem if_or {α : Type} {a b : Prop} [Decidable a] [Decidable b] {x y : α} : (if a ∨ b then x else y) = if a then x else if b then x else y := by
  by_cases h1 : a <;> by_cases h2 : b <;> simp [h1, h2]
theorem if_and {α : Type} {a b : Prop} [Decidable a] [Decidable b] {x y : α} : (if a ∧ b then x else y) = if a then (if b then x else y) else y := by
  by_cases h1 : a <;> by_cases h2 : b <;> simp [h1, h2]
theorem ok_if {α : Type} {a : Prop} [Decidable a] {x y : α} {h : Hh} : (Res.ok (if a then x else y) h) = if a then .ok x h else .ok y h := by split <;> rfl
theorem map_if {α β : Type} {a : Prop} [Decidable a] {x y : Option α} {f : α → β} : Option.map f (if a then x else y) = if a then x.map f else y.map f := by split <;> rfl
/-- data of an option -/
def dO : Option D → D
  | some d => d
  | none => .non
@[simp] theorem dO_some {d : D} : dO (some d) = d := rfl
@[simp] theorem dO_none : dO none = .non := rfl
theorem dO_if {a : Prop} [Decidable a] {x y : Option D} : dO (if a then x else y) = if a then dO x else dO y := by split <;> rfl
end Pf

set_option Elab.async false
set_option linter.all false
set_option maxRecDepth 100000
set_option maxHeartbeats 2000000
/-! ## enumerate -/
namespace Pf
open PySem L2
theorem enum_new1 {v : Value} {o : Obj} {H : Heap → Prop} (B : Begins v o H) :
    Meets (Builtin.«enumerate.__new__» ⟨[.type "enumerate", v], []⟩) (fun _ R s => H s.heap ∧
      R (.ok (.ret (.ref (s.heap.push o).objs.size))) { s with heap := (s.heap.push o).push { cls := .type "enumerate", data := .fields #[.none, .bool false, .ref s.heap.objs.size, rawInt 0, .none, .none] } }) :=
  .of_wp fun prog w A R s h => by
    obtain ⟨hp, g, d, tk, os⟩ := s
    obtain ⟨h1, h⟩ := h
    have hsub := sub_enumerate
    have it : ∀ {A' : Around} {E : Value → Shared → Prop} {Q : Value → Shared → Prop}, Q (.ref hp.objs.size) ⟨hp.push o, g, d, tk, os⟩ → wpAny (model prog w) A' (pyIter v) Q E ⟨hp, g, d, tk, os⟩ := fun q => B.iter prog w _ _ ⟨hp, g, d, tk, os⟩ _ h1 q
    wp_walk using it
    refine wpAny_stack_any fun st => wpAny_pure ?_
    split
    · rename_i c _ _ _ _ _
      cases (c == Value.type "enumerate")
      · wp_walk using it
        exact ⟨_, rfl, h⟩
      · wp_walk using it
        exact ⟨_, rfl, h⟩
    · wp_walk using it
      exact ⟨_, rfl, h⟩
theorem call_enum {prog : Program} {w : World} {A : Around} {E : Value → Shared → Prop} {s : Shared} {v : Value} {o : Obj} {H : Heap → Prop} {Q : Value → Shared → Prop} (B : Begins v o H) (h1 : H s.heap)
    (h : ∀ h', IsEnum h' (s.heap.objs.size + 1) s.heap.objs.size 0 .none → h'.get? s.heap.objs.size = some o → h'.objs.size = s.heap.objs.size + 2 → (∀ b o, s.heap.get? b = some o → h'.get? b = some o) → Q (.ref (s.heap.objs.size + 1)) { s with heap := h' }) :
    wpAny (model prog w) A (call (.type "enumerate") [v]) Q E s := by
  refine callType_new F.called_enumerate (by decide) (F.typeCall_enumerate_1 _) (F.newCall_enumerate_1 _) (fun obj => F.args_object_init_2 obj _) F.entry_enumerate_new (enum_new1 B) ⟨h1, ?_⟩
  have hz : (s.heap.push o).objs.size = s.heap.objs.size + 1 := Heap.size_push ..
  show _ ∧ _
  rw [hz]
  have he : IsEnum ((s.heap.push o).push { cls := .type "enumerate", data := .fields #[.none, .bool false, .ref s.heap.objs.size, rawInt 0, .none, .none] }) (s.heap.objs.size + 1) s.heap.objs.size 0 .none := by
    have q := Heap.get?_push_size (s.heap.push o) (o := { cls := .type "enumerate", data := .fields #[.none, .bool false, .ref s.heap.objs.size, rawInt 0, .none, .none] }) rfl
    rw [hz] at q
    exact q
  refine ⟨⟨_, he, rfl⟩, h _ he (Heap.get?_push_of_some _ (Heap.get?_push_size _ B.free)) (by rw [Heap.size_push, hz]) fun b o x => ?_⟩
  exact Heap.get?_push_of_some _ (Heap.get?_push_of_some _ x)
/-- enumerate over a tuple, turn by turn -/
def Ien (K : PySem.W.Frag) (a : Addr) : It where
  go := fun i H => ∃ xs x, SqT K H a xs ∧ xs[i]? = some x
  yld := fun i H y H' => ∃ T x, y = .ref T ∧ H T = none ∧ H' = upd H T (.tup [.int (i : Nat), x]) ∧ ∀ xs, SqT K H a xs → xs[i]? = some x
  stop := fun i H => ∃ xs, SqT K H a xs ∧ xs.length = i
theorem apart_obj {h : Heap} {a b : Addr} {o u : Obj} (e1 : h.get? a = some o) (e2 : h.get? b = some u) (n : o.cls ≠ u.cls) : a ≠ b := fun z => by
  subst z
  rw [e1] at e2
  cases e2
  exact n rfl
theorem tuple_inj {X : Cx} {pins : List (Addr × Obj)} {σ : St} {H : Hp} {s : Shared} {a : Addr} {xs ys : List V} (I : Inv X pins σ H s) (h1 : SqT X.K H a xs) (h2 : SqT X.K H a ys) : xs = ys := I.tuple_inj h1 h2
theorem turn_enT {P : Program} {w : World} {K : PySem.W.Frag} {elts : List Expr} {kk : Nat} {tpos : Pos} (a e it : Addr) :
    Turn P w K (.Tuple elts kk tpos) (Ien K a) [e, it] e (fun i h => (∃ old, IsEnum h e it ((i : Nat) : Int) old) ∧ h.IsTupleIter it a i ∧ e ≠ it) where
  mem := List.mem_cons_self
  obj := fun i h ⟨⟨old, he⟩, ⟨o, ho, hc, hd⟩, _⟩ b hb => by
    rcases List.mem_cons.mp hb with rfl | hb
    · exact ⟨_, he, fun v q => nomatch q⟩
    · rw [List.mem_singleton.mp hb]
      exact ⟨o, ho, fun v q => by rw [hd] at q; cases q⟩
  keep := fun i h h' ⟨⟨old, he⟩, hi, hne⟩ k => ⟨⟨old, k e List.mem_cons_self _ he⟩, hi.at fun o q => k it (List.mem_cons_of_mem _ List.mem_cons_self) o q, hne⟩
  item := by
    intro X hP hw hK hc i pins s σ H E I hf ⟨⟨old, he⟩, hit, hne⟩ ⟨xs, x, hq, hx⟩
    subst hP hw hK
    obtain ⟨its, rv, tp, hz⟩ := I.tuple hq
    obtain ⟨u, hu, ru⟩ := rv.get hx
    have ilt : i < its.toArray.size := by simpa using (List.getElem?_eq_some_iff.mp hu).1
    have hel : e < s.heap.objs.size := Heap.lt_size he
    obtain ⟨oi, hoi, hci, hdi⟩ := hit
    have hil : it < s.heap.objs.size := Heap.lt_size hoi
    obtain ⟨ot, hot, hct, hdt⟩ := tp
    have ai : a ≠ it := apart_obj hot hoi (by rw [hct, hci]; decide)
    have ae : a ≠ e := apart_obj hot he (by rw [hct]; exact fun z => by simp at z)
    have D := Draws.tuple (prog := X.prog) (w := X.w) (A := X.A.in1) (I.ok.hd hc) it a ai its.toArray
    refine wpAny_pyNext_enum_itemD D he ⟨⟨oi, hoi, hci, hdi⟩, ⟨ot, hot, hct, hdt⟩⟩ ilt hne (by simp [hne, Ne.symm ae]) fun z h' tk hz1 ho st' hT hsz hk => ?_
    have ez : z = u := by
      rw [List.getElem?_toArray, hu] at hz1
      exact (Option.some.inj hz1).symm
    subst ez
    refine ⟨_, rfl, wpAny_letOwnedTupleGo_enum (s := { s with heap := h', toks := tk + 1 }) ho fun h2 he2 sb => ?_⟩
    have hT2 : h2.get? s.heap.objs.size = some { cls := .type "tuple", data := .seq #[.int i tk, z] } := (sb.2 _ (Nat.ne_of_gt hel)).trans hT
    have kp : ∀ b ob, b ∉ [e, it] → s.heap.get? b = some ob → h2.get? b = some ob := fun b ob hb q => by
      have b1 : b ≠ e := fun z => hb (by simp [z])
      have b2 : b ≠ it := fun z => hb (by simp [z])
      exact (sb.2 b b1).trans (hk b ob b1 b2 q)
    have nw : ObjOk X.prog X.w (upd H s.heap.objs.size (.tup [.int (i : Nat), x])) h2 s.heap.objs.size (.tup [.int (i : Nat), x]) := ⟨by show 2 ≤ sizeLine; decide, [.int i tk, z], .cons ⟨_, rfl⟩ (.cons ru .nil), ⟨_, hT2, rfl, _, rfl⟩⟩
    have J : Inv X pins σ (upd H s.heap.objs.size (.tup [.int (i : Nat), x])) { s with heap := h2, toks := tk + 1 } := I.turnedNew (ch := [e, it]) kp hf (Nat.le_refl _) nw
    refine ⟨.ref s.heap.objs.size, _, J, rfl, ⟨_, x, rfl, I.hok.fresh (Nat.le_refl _), rfl, fun ys hy => by rw [tuple_inj I hy hq]; exact hx⟩, ⟨⟨z, ?_⟩, st'.1.at fun o q => (sb.2 it (Ne.symm hne)).trans q, hne⟩, fun b hb => ?_⟩
    · rw [show ((i + 1 : Nat) : Int) = (i : Int) + 1 by omega]
      exact he2
    · have hb' : b < s.heap.objs.size := by
        rcases List.mem_cons.mp hb with z | z
        · rw [z]; exact hel
        · rw [List.mem_singleton.mp z]; exact hil
      rw [upd_ne (Nat.ne_of_lt hb')]
      exact (hf b hb).1
  done := by
    intro X hP hw hK hc i pins s σ H E I hf ⟨⟨old, he⟩, hit, hne⟩ ⟨xs, hq, hx⟩
    subst hP hw hK
    obtain ⟨its, rv, tp, hz⟩ := I.tuple hq
    have en : its.toArray.size = i := by rw [List.size_toArray, ← rv.length]; exact hx
    obtain ⟨oi, hoi, hci, hdi⟩ := hit
    obtain ⟨ot, hot, hct, hdt⟩ := tp
    have ai : a ≠ it := apart_obj hot hoi (by rw [hct, hci]; decide)
    have D := Draws.tuple (prog := X.prog) (w := X.w) (A := X.A.in1) (I.ok.hd hc) it a ai its.toArray
    obtain ⟨f0, f1, f2, f3, f4, f5⟩ := hf it (List.mem_cons_of_mem _ List.mem_cons_self)
    refine wpAny_pyNext_enum_endD D he ⟨by rw [en]; exact ⟨oi, hoi, hci, hdi⟩, ⟨ot, hot, hct, hdt⟩⟩ fun h' eb => ⟨rfl, ?_⟩
    exact I.turned (t' := s.toks) (fun b o hb q => eb b o hb q) f0 f1 f3 f4 f5
  self := fun A i s Q E ⟨⟨_, he⟩, _⟩ h => wpAny_pyIter_enum he h
def isTupE : Expr → Bool
  | .Tuple _ _ _ => true
  | _ => false
def enumD : Nat → List D → List D
  | _, [] => []
  | n, d :: l => .tup [.int (n : Nat), d] :: enumD (n + 1) l
theorem enumD_len : ∀ (n : Nat) (l : List D), (enumD n l).length = l.length
  | _, [] => rfl
  | n, d :: l => by simp [enumD, enumD_len (n + 1) l]
theorem enumD_get : ∀ (n : Nat) (l : List D) (i : Nat) (d : D), l[i]? = some d → (enumD n l)[i]? = some (.tup [.int ((n + i : Nat)), d])
  | _, [], _, _, h => by simp at h
  | n, e :: l, 0, d, h => by simp at h; subst h; rfl
  | n, e :: l, i + 1, d, h => by
    have := enumD_get (n + 1) l i d (by simpa using h)
    simp only [enumD, List.getElem?_cons_succ, this]
    rw [show n + 1 + i = n + (i + 1) by omega]
section
variable {X : Cx} {G : Gx} {H : Hp} {M : Mp}
theorem new_tup {h2 : Hh} {M2 : Mp} {H2 : Hp} (gk : Gk G) (r2 : RL G h2 M2 H2) {T : Addr} {ds : List D} {vs : List V} (hT : H2 T = none) (rv : RVs G M2 H2 ds vs) : ∃ M3, Ext M2 H2 M3 (upd H2 T (.tup vs)) ∧ RL G h2 M3 (upd H2 T (.tup vs)) ∧ RV G M3 (upd H2 T (.tup vs)) (.tup ds) (.ref T) :=
  ⟨_, Ext.newF' hT, r2.newF gk hT trivial, .tup (.inl ⟨.inr rfl, upd_same⟩) (rv.keep gk (Keep.newF hT))⟩
theorem it_enT (gk : Gk G) (hK : G.K = X.K) {p : Addr} {l : List D} {vs : List V} (x : TupAt G M.F H p vs) (rv : RVs G M H l vs) : ItOk G M H (enumD 0 l) (Ien X.K p) := by
  intro h2 M2 H2 e r2
  have x2 := (x.keep e).sq hK
  have rv2 := rv.keep gk e
  refine ⟨fun i hi => ?_, fun i hi => ⟨vs, x2, by rw [← rv.length]; rw [enumD_len] at hi; exact hi⟩⟩
  rw [enumD_len] at hi
  obtain ⟨v, e1, r1⟩ := rv2.get (List.getElem?_eq_getElem hi)
  refine ⟨⟨vs, v, x2, e1⟩, fun y H3 hy => ?_⟩
  obtain ⟨T, z, rfl, hT, rfl, hz⟩ := hy
  have ez : z = v := by have := hz vs x2; rw [e1] at this; exact (Option.some.inj this).symm
  subst ez
  obtain ⟨M3, e3, r3, rv3⟩ := new_tup gk r2 hT (.cons (.int (i : Nat)) (.cons r1 .nil))
  exact ⟨_, M3, enumD_get 0 l i _ (List.getElem?_eq_getElem hi), e3, r3, by simpa using rv3⟩
theorem it_enL (gk : Gk G) {p : Addr} {l : List D} (x : ∀ M2 H2, Keep M H M2 H2 → ∃ vs, SqL X.K H2 p vs ∧ RVs G M2 H2 l vs) : ItOk G M H (enumD 0 l) (Ite X.K p) := by
  intro h2 M2 H2 e r2
  obtain ⟨vs, x2, rv2⟩ := x M2 H2 e
  refine ⟨fun i hi => ?_, fun i hi => ⟨vs, x2, by rw [← rv2.length]; rw [enumD_len] at hi; exact Nat.le_of_eq hi⟩⟩
  rw [enumD_len] at hi
  obtain ⟨v, e1, r1⟩ := rv2.get (List.getElem?_eq_getElem hi)
  refine ⟨⟨vs, v, x2, e1⟩, fun y H3 hy => ?_⟩
  obtain ⟨T, z, rfl, hT, rfl, hz⟩ := hy
  have ez : z = v := by have := hz vs x2; rw [e1] at this; exact (Option.some.inj this).symm
  subst ez
  obtain ⟨M3, e3, r3, rv3⟩ := new_tup gk r2 hT (.cons (.int (i : Nat)) (.cons r1 .nil))
  exact ⟨_, M3, enumD_get 0 l i _ (List.getElem?_eq_getElem hi), e3, r3, by simpa using rv3⟩
end
theorem bt_enumerate : bootBuiltins "enumerate" = some (.type "enumerate") := by decide +kernel
/-- enumerate(x), x a tuple or a list that is written no more -/
def Ib.en (x : Xp) : Ib where
  sem r h := (x.sem r h).bind fun d h1 => ofO ((items d).map (enumD 0)) h1
  ok ck a := match a with
    | .Call (.Name f _) [y] [] _ => f == ("enumerate" : Str) && globB ck f && x.ok ck y
    | _ => false
  need t := BtL t "enumerate" ∧ x.need t
  tgt := isTupE
  set _ a h := by cases a <;> first | rfl | (simp at h)
  snd {X G ck k Wx tg a} C ht h n := by
    cases tg <;> simp only [isTupE, Bool.false_eq_true] at ht
    split at h
    · simp only [Bool.and_eq_true, beq_iff_eq] at h
      obtain ⟨⟨rfl, hg⟩, h2⟩ := h
      obtain ⟨g1, g2, g3⟩ := gl_of C hg
      have hs := x.star _ _ h2
      have hm : X.mg "enumerate" = none := by rw [← C.hmg]; exact n.1
      have hA : PA X [_] _ := pa_cons (x.snd C h2 n.2) pa_nil (star_cons hs _)
      refine ⟨fun pins s σ H R I ⟨r, hh, M, rl, re, k⟩ => ?_⟩
      refine PyProof.Rows.Call_ (ld_blt I g1 hm bt_enumerate (PyProof.Rows.callWith_type1 (thn (hA.run _ pins s σ H (fun vs H1 => ∃ v d h1 M1, vs = [v] ∧ Ext M H M1 H1 ∧ RL G h1 M1 H1 ∧ RV G M1 H1 d v ∧ KI G Wx σ M1 H1 R (ofO ((items d).map (enumD 0)) h1)) I ⟨r, hh, M, rl, re, oneI k fun d v h1 M1 H1 e1 r1 b1 k1 => ⟨v, d, h1, M1, rfl, e1, r1, b1, k1⟩⟩) fun us s1 ⟨vs, H1, I1, r1, v, d, h1, M1, ev, e1, rl1, rv, k1⟩ => ?_) (star_cons hs _) rfl))
      subst ev
      have fin : ∀ {J : It} {tn : Nat → Heap → Prop} {h' : Heap} {tg : Expr}, (∀ b o, s1.heap.get? b = some o → h'.get? b = some o) → Turn X.prog X.w X.K tg J [s1.heap.objs.size + 1, s1.heap.objs.size] (s1.heap.objs.size + 1) tn → tn 0 h' → R J H1 → PIE X pins σ tg R (.ref (s1.heap.objs.size + 1)) { s1 with heap := h' } := by
        intro J tn h' tg kp tu st q
        refine ⟨_, _, tn, J, H1, rfl, I1.kept (t' := s1.toks) kp, tu, st, fun b hb => ?_, q⟩
        have hle : s1.heap.objs.size ≤ b := by
          rcases List.mem_cons.mp hb with z | z
          · rw [z]; exact Nat.le_succ _
          · rw [List.mem_singleton.mp z]; exact Nat.le_refl _
        exact I1.fpOk hle (I1.hok.fresh hle)
      cases r1 with
      | cons rr rest =>
        cases rest
        cases rv <;> simp only [items, Option.map_some, Option.map_none, ofO_some, ofO_none] at k1 <;> first | exact k1.elim | cases rr
        · rename_i a1 r2 _
          obtain ⟨its, rv2, tp, hz⟩ := I1.tuple (a1.sq C.hK)
          exact call_enum (begins_tuple _ its.toArray) tp fun h' he hi hsz kp => wpAny_pyIter_enum he (fin kp (turn_enT _ _ _) ⟨⟨.none, he⟩, ⟨_, hi, rfl, rfl⟩, Nat.succ_ne_self _⟩ (k1 _ M1 H1 Ext.refl rl1 (it_enT C.gk C.hK a1 r2)))
        · rename_i a1 r2 _
          obtain ⟨its, rv2, p', hz⟩ := I1.list (a1.sq C.hK)
          exact call_enumerate_list p'.isList fun h' he hit hsz kp => wpAny_pyIter_enum he (fin kp (turn_enum _ _ _) ⟨⟨.none, he⟩, hit, Nat.succ_ne_self _⟩ (k1 _ M1 H1 Ext.refl rl1 (it_enL C.gk fun M2 H2 e => ⟨_, (a1.keep e).sq C.hK, r2.keep C.gk e⟩)))
        · rename_i hf ro _
          have ro' := ro
          cases ro with
          | lst h1 rr =>
            obtain ⟨its, rv2, p', hz⟩ := I1.list (SqL.of h1)
            refine call_enumerate_list p'.isList fun h' he hit hsz kp => wpAny_pyIter_enum he (fin kp (turn_enum _ _ _) ⟨⟨.none, he⟩, hit, Nat.succ_ne_self _⟩ (k1 _ M1 H1 Ext.refl rl1 (it_enL C.gk fun M2 H2 e => ?_)))
            cases ro'.keep C.gk e (e.k _ hf).2 with
            | lst h r => exact ⟨_, SqL.of h, r⟩
    · cases h
end Pf

set_option Elab.async false
set_option linter.all false
set_option maxRecDepth 100000
set_option maxHeartbeats 2000000
/-! ## zip -/
namespace Pf
open PySem L2
def Iz3 (K : PySem.W.Frag) (a b c : Addr) : It where
  go := fun i H => ∃ xs ys zs x y z, SqT K H a xs ∧ SqT K H b ys ∧ SqT K H c zs ∧ xs[i]? = some x ∧ ys[i]? = some y ∧ zs[i]? = some z
  yld := fun i H v H' => ∃ T x y z, v = .ref T ∧ H T = none ∧ H' = upd H T (.tup [x, y, z]) ∧ (∀ xs, SqT K H a xs → xs[i]? = some x) ∧ (∀ ys, SqT K H b ys → ys[i]? = some y) ∧ ∀ zs, SqT K H c zs → zs[i]? = some z
  stop := fun i H => ∃ xs ys zs, SqT K H a xs ∧ SqT K H b ys ∧ SqT K H c zs ∧ (i ≤ xs.length ∧ i ≤ ys.length ∧ i ≤ zs.length) ∧ (i = xs.length ∨ i = ys.length ∨ i = zs.length)
theorem turn_z3 {P : Program} {w : World} {K : PySem.W.Frag} {elts : List Expr} {kk : Nat} {tpos : Pos} {a b c z TI TO i1 i2 i3 : Addr} (S : ZipSep3 z TI TO i1 i2 i3 [i1, a] [i2, b] [i3, c]) :
    Turn P w K (.Tuple elts kk tpos) (Iz3 K a b c) [z, TI, TO, i1, i2, i3] z (fun i h => IsZip h z TI TO .none ∧ IsTupOf3 h TI (.ref i1) (.ref i2) (.ref i3) ∧ (∃ x y u, IsTupOf3 h TO x y u) ∧ h.IsTupleIter i1 a i ∧ h.IsTupleIter i2 b i ∧ h.IsTupleIter i3 c i) where
  mem := List.mem_cons_self
  obj := fun i h ⟨hz, hTI, ⟨x, y, u, hTO⟩, ⟨o1, e1, _, d1⟩, ⟨o2, e2, _, d2⟩, ⟨o3, e3, _, d3⟩⟩ b hb => by
    simp only [List.mem_cons, List.not_mem_nil, or_false] at hb
    rcases hb with q | q | q | q | q | q <;> rw [q]
    · exact ⟨_, hz, fun v q => nomatch q⟩
    · exact ⟨_, hTI, fun v q => nomatch q⟩
    · exact ⟨_, hTO, fun v q => nomatch q⟩
    · exact ⟨o1, e1, fun v q => by rw [d1] at q; cases q⟩
    · exact ⟨o2, e2, fun v q => by rw [d2] at q; cases q⟩
    · exact ⟨o3, e3, fun v q => by rw [d3] at q; cases q⟩
  keep := fun i h h' ⟨hz, hTI, ⟨x, y, u, hTO⟩, h1, h2, h3⟩ k => ⟨k z (by simp) _ hz, k TI (by simp) _ hTI, ⟨x, y, u, k TO (by simp) _ hTO⟩, h1.at fun o q => k i1 (by simp) o q, h2.at fun o q => k i2 (by simp) o q, h3.at fun o q => k i3 (by simp) o q⟩
  item := by
    intro X hP hw hK hc i pins s σ H E I hf ⟨hz, hTI, ⟨y1, y2, y3, hTO⟩, st1, st2, st3⟩ ⟨xs, ys, zs, x, y, u, q1, q2, q3, g1, g2, g3⟩
    subst hP hw hK
    obtain ⟨its1, rv1, tp1, _⟩ := I.tuple q1
    obtain ⟨its2, rv2, tp2, _⟩ := I.tuple q2
    obtain ⟨its3, rv3, tp3, _⟩ := I.tuple q3
    obtain ⟨v1, hu1, ru1⟩ := rv1.get g1
    obtain ⟨v2, hu2, ru2⟩ := rv2.get g2
    obtain ⟨v3, hu3, ru3⟩ := rv3.get g3
    have apt : ∀ {t it : Addr} {its : Array Value}, PyProof.Rows.IsTup s.heap t its → s.heap.IsTupleIter it t i → t ≠ it := fun {t it its} ⟨ot, hot, hct, _⟩ ⟨oi, hoi, hci, _⟩ => apart_obj hot hoi (by rw [hct, hci]; decide)
    have D1 := Draws.tuple (prog := X.prog) (w := X.w) (A := X.A.in1) (I.ok.hd hc) i1 a (apt tp1 st1) its1.toArray
    have D2 := Draws.tuple (prog := X.prog) (w := X.w) (A := X.A.in1) (I.ok.hd hc) i2 b (apt tp2 st2) its2.toArray
    have D3 := Draws.tuple (prog := X.prog) (w := X.w) (A := X.A.in1) (I.ok.hd hc) i3 c (apt tp3 st3) its3.toArray
    have lt : ∀ {its : List Value} {v : Value}, its[i]? = some v → i < its.toArray.size := fun {its v} q => by simpa using (List.getElem?_eq_some_iff.mp q).1
    have bnd : ∀ b ∈ [z, TI, TO, i1, i2, i3], b < s.heap.objs.size := fun b hb => by
      simp only [List.mem_cons, List.not_mem_nil, or_false] at hb
      rcases hb with q | q | q | q | q | q <;> rw [q]
      · exact Heap.lt_size hz
      · exact Heap.lt_size hTI
      · exact Heap.lt_size hTO
      · obtain ⟨_, q, _⟩ := st1; exact Heap.lt_size q
      · obtain ⟨_, q, _⟩ := st2; exact Heap.lt_size q
      · obtain ⟨_, q, _⟩ := st3; exact Heap.lt_size q
    refine wpAny_pyNext_zipD3_item S D1 D2 D3 hz hTI hTO ⟨st1, tp1⟩ ⟨st2, tp2⟩ ⟨st3, tp3⟩ (lt hu1) (lt hu2) (lt hu3) fun w1 w2 w3 h' tk e1 e2 e3 hz1 hTO1 d1 d2 d3 hT hsz hk => ?_
    have i1' : w1 = v1 := by rw [List.getElem?_toArray, hu1] at e1; exact (Option.some.inj e1).symm
    have i2' : w2 = v2 := by rw [List.getElem?_toArray, hu2] at e2; exact (Option.some.inj e2).symm
    have i3' : w3 = v3 := by rw [List.getElem?_toArray, hu3] at e3; exact (Option.some.inj e3).symm
    subst i1' i2' i3'
    refine ⟨_, rfl, wpAny_letOwnedTupleGo_zip (s := { s with heap := h', toks := tk }) hz1 fun h2 hz2 sb => ?_⟩
    have nz : z < s.heap.objs.size := Heap.lt_size hz
    have hT2 : h2.get? s.heap.objs.size = some { cls := .type "tuple", data := .seq #[w1, w2, w3] } := (sb.2 _ (Nat.ne_of_gt nz)).trans hT
    have kp : ∀ b ob, b ∉ [z, TI, TO, i1, i2, i3] → s.heap.get? b = some ob → h2.get? b = some ob := fun b ob hb q => by
      simp only [List.mem_cons, List.not_mem_nil, or_false, not_or] at hb
      exact (sb.2 b hb.1).trans (hk b ob hb.1 hb.2.2.1 hb.2.2.2.1 hb.2.2.2.2.1 hb.2.2.2.2.2 q)
    have nw : ObjOk X.prog X.w (upd H s.heap.objs.size (.tup [x, y, u])) h2 s.heap.objs.size (.tup [x, y, u]) := ⟨by show 3 ≤ sizeLine; decide, [w1, w2, w3], .cons ru1 (.cons ru2 (.cons ru3 .nil)), ⟨_, hT2, rfl, _, rfl⟩⟩
    have J : Inv X pins σ (upd H s.heap.objs.size (.tup [x, y, u])) { s with heap := h2, toks := tk } := I.turnedNew (ch := [z, TI, TO, i1, i2, i3]) kp hf (Nat.le_refl _) nw
    refine ⟨.ref s.heap.objs.size, _, J, rfl, ⟨_, x, y, u, rfl, I.hok.fresh (Nat.le_refl _), rfl, fun l hl => by rw [tuple_inj I hl q1]; exact g1, fun l hl => by rw [tuple_inj I hl q2]; exact g2, fun l hl => by rw [tuple_inj I hl q3]; exact g3⟩,
      ⟨hz2, (sb.2 TI S.TIz).trans (hk _ _ S.TIz S.TITO S.TIi1 S.TIi2 S.TIi3 hTI), ⟨_, _, _, (sb.2 TO S.TOz).trans hTO1⟩, d1.1.at fun o q => (sb.2 i1 (Ne.symm S.zi1)).trans q, d2.1.at fun o q => (sb.2 i2 (Ne.symm S.zi2)).trans q, d3.1.at fun o q => (sb.2 i3 (Ne.symm S.zi3)).trans q⟩, fun b hb => ?_⟩
    rw [upd_ne (Nat.ne_of_lt (bnd b hb))]
    exact (hf b hb).1
  done := by
    intro X hP hw hK hc i pins s σ H E I hf ⟨hz, hTI, ⟨y1, y2, y3, hTO⟩, st1, st2, st3⟩ ⟨xs, ys, zs, q1, q2, q3, hle, hend⟩
    subst hP hw hK
    obtain ⟨its1, rv1, tp1, _⟩ := I.tuple q1
    obtain ⟨its2, rv2, tp2, _⟩ := I.tuple q2
    obtain ⟨its3, rv3, tp3, _⟩ := I.tuple q3
    have apt : ∀ {t it : Addr} {its : Array Value}, PyProof.Rows.IsTup s.heap t its → s.heap.IsTupleIter it t i → t ≠ it := fun {t it its} ⟨ot, hot, hct, _⟩ ⟨oi, hoi, hci, _⟩ => apart_obj hot hoi (by rw [hct, hci]; decide)
    have D1 := Draws.tuple (prog := X.prog) (w := X.w) (A := X.A.in1) (I.ok.hd hc) i1 a (apt tp1 st1) its1.toArray
    have D2 := Draws.tuple (prog := X.prog) (w := X.w) (A := X.A.in1) (I.ok.hd hc) i2 b (apt tp2 st2) its2.toArray
    have D3 := Draws.tuple (prog := X.prog) (w := X.w) (A := X.A.in1) (I.ok.hd hc) i3 c (apt tp3 st3) its3.toArray
    rw [rv1.length, rv2.length, rv3.length] at hle hend
    refine wpAny_pyNext_zipD3_end S D1 D2 D3 hz hTI hTO ⟨st1, tp1⟩ ⟨st2, tp2⟩ ⟨st3, tp3⟩ (by simpa using hle.1) (by simpa using hle.2.1) (by simpa using hle.2.2) (by simpa using hend) fun h' tk hk => ⟨rfl, ?_⟩
    refine I.turnedL (t' := tk) (ch := [z, TI, TO, i1, i2, i3]) (fun b o hb q => ?_) hf
    simp only [List.mem_cons, List.not_mem_nil, or_false, not_or] at hb
    exact hk b o hb.1 hb.2.2.1 hb.2.2.2.1 hb.2.2.2.2.1 hb.2.2.2.2.2 q
  self := fun A i s Q E st h => wpAny_pyIter_zip st.1 h
def zip2D : List D → List D → List D
  | a :: l, b :: m => .tup [a, b] :: zip2D l m
  | _, _ => []
def zip3D : List D → List D → List D → List D
  | a :: l, b :: m, c :: n => .tup [a, b, c] :: zip3D l m n
  | _, _, _ => []
theorem zip2D_len : ∀ l m : List D, (zip2D l m).length = min l.length m.length
  | [], _ => by simp [zip2D]
  | _ :: _, [] => by simp [zip2D]
  | a :: l, b :: m => by simp [zip2D, zip2D_len l m]
theorem zip2D_get : ∀ (l m : List D) (i : Nat) (a b : D), l[i]? = some a → m[i]? = some b → (zip2D l m)[i]? = some (.tup [a, b])
  | [], _, _, _, _, h, _ => by simp at h
  | _ :: _, [], _, _, _, _, h => by simp at h
  | a :: l, b :: m, 0, _, _, h1, h2 => by simp at h1 h2; subst h1 h2; rfl
  | a :: l, b :: m, i + 1, x, y, h1, h2 => by simpa [zip2D] using zip2D_get l m i x y (by simpa using h1) (by simpa using h2)
theorem zip3D_len : ∀ l m n : List D, (zip3D l m n).length = min (min l.length m.length) n.length
  | [], _, _ => by simp [zip3D]
  | _ :: _, [], _ => by simp [zip3D]
  | _ :: _, _ :: _, [] => by simp [zip3D]
  | a :: l, b :: m, c :: n => by simp [zip3D, zip3D_len l m n]
theorem zip3D_get : ∀ (l m n : List D) (i : Nat) (a b c : D), l[i]? = some a → m[i]? = some b → n[i]? = some c → (zip3D l m n)[i]? = some (.tup [a, b, c])
  | [], _, _, _, _, _, _, h, _, _ => by simp at h
  | _ :: _, [], _, _, _, _, _, _, h, _ => by simp at h
  | _ :: _, _ :: _, [], _, _, _, _, _, _, h => by simp at h
  | a :: l, b :: m, c :: n, 0, _, _, _, h1, h2, h3 => by simp at h1 h2 h3; subst h1 h2 h3; rfl
  | a :: l, b :: m, c :: n, i + 1, x, y, z, h1, h2, h3 => by simpa [zip3D] using zip3D_get l m n i x y z (by simpa using h1) (by simpa using h2) (by simpa using h3)
section
variable {X : Cx} {G : Gx} {H : Hp} {M : Mp}
theorem it_z3 (gk : Gk G) (hK : G.K = X.K) {p1 p2 p3 : Addr} {l m n : List D} {us vs ws : List V} (x : TupAt G M.F H p1 us) (rx : RVs G M H l us) (y : TupAt G M.F H p2 vs) (ry : RVs G M H m vs) (z : TupAt G M.F H p3 ws) (rz : RVs G M H n ws) : ItOk G M H (zip3D l m n) (Iz3 X.K p1 p2 p3) := by
  intro h2 M2 H2 e r2
  have x2 := (x.keep e).sq hK
  have y2 := (y.keep e).sq hK
  have z2 := (z.keep e).sq hK
  have rx2 := rx.keep gk e
  have ry2 := ry.keep gk e
  have rz2 := rz.keep gk e
  refine ⟨fun i hi => ?_, fun i hi => ⟨us, vs, ws, x2, y2, z2, ?_, ?_⟩⟩
  · rw [zip3D_len] at hi
    have i1 : i < l.length := by omega
    have i2 : i < m.length := by omega
    have i3 : i < n.length := by omega
    obtain ⟨u, e1, r1⟩ := rx2.get (List.getElem?_eq_getElem i1)
    obtain ⟨v, e2, r2'⟩ := ry2.get (List.getElem?_eq_getElem i2)
    obtain ⟨w, e3, r3⟩ := rz2.get (List.getElem?_eq_getElem i3)
    refine ⟨⟨us, vs, ws, u, v, w, x2, y2, z2, e1, e2, e3⟩, fun t H3 ht => ?_⟩
    obtain ⟨T, a, b, c, rfl, hT, rfl, ha, hb, hc⟩ := ht
    have ea : a = u := by have := ha us x2; rw [e1] at this; exact (Option.some.inj this).symm
    have eb : b = v := by have := hb vs y2; rw [e2] at this; exact (Option.some.inj this).symm
    have ec : c = w := by have := hc ws z2; rw [e3] at this; exact (Option.some.inj this).symm
    subst ea eb ec
    obtain ⟨M3, f1, f2, f3⟩ := new_tup gk r2 hT (.cons r1 (.cons r2' (.cons r3 .nil)))
    exact ⟨_, M3, zip3D_get l m n i _ _ _ (List.getElem?_eq_getElem i1) (List.getElem?_eq_getElem i2) (List.getElem?_eq_getElem i3), f1, f2, f3⟩
  · rw [← rx.length, ← ry.length, ← rz.length]; rw [zip3D_len] at hi; omega
  · rw [← rx.length, ← ry.length, ← rz.length]; rw [zip3D_len] at hi; omega
theorem it_z2T (gk : Gk G) (hK : G.K = X.K) {p1 p2 : Addr} {l m : List D} {us vs : List V} (x : TupAt G M.F H p1 us) (rx : RVs G M H l us) (y : TupAt G M.F H p2 vs) (ry : RVs G M H m vs) : ItOk G M H (zip2D l m) (RZ.ItzT X.K p1 p2) := by
  intro h2 M2 H2 e r2
  have x2 := (x.keep e).sq hK
  have y2 := (y.keep e).sq hK
  have rx2 := rx.keep gk e
  have ry2 := ry.keep gk e
  refine ⟨fun i hi => ?_, fun i hi => ⟨us, vs, x2, y2, ?_⟩⟩
  · rw [zip2D_len] at hi
    have i1 : i < l.length := by omega
    have i2 : i < m.length := by omega
    obtain ⟨u, e1, r1⟩ := rx2.get (List.getElem?_eq_getElem i1)
    obtain ⟨v, e2, r2'⟩ := ry2.get (List.getElem?_eq_getElem i2)
    refine ⟨⟨us, vs, u, v, x2, y2, e1, e2⟩, fun t H3 ht => ?_⟩
    obtain ⟨T, a, b, rfl, hT, rfl, ha, hb⟩ := ht
    have ea : a = u := by have := ha us x2; rw [e1] at this; exact (Option.some.inj this).symm
    have eb : b = v := by have := hb vs y2; rw [e2] at this; exact (Option.some.inj this).symm
    subst ea eb
    obtain ⟨M3, f1, f2, f3⟩ := new_tup gk r2 hT (.cons r1 (.cons r2' .nil))
    exact ⟨_, M3, zip2D_get l m i _ _ (List.getElem?_eq_getElem i1) (List.getElem?_eq_getElem i2), f1, f2, f3⟩
  · rw [← rx.length, ← ry.length]; rw [zip2D_len] at hi; omega
theorem it_z2L (gk : Gk G) {p1 p2 : Addr} {l m : List D} (x : ∀ M2 H2, Keep M H M2 H2 → ∃ vs, SqL X.K H2 p1 vs ∧ RVs G M2 H2 l vs) (y : ∀ M2 H2, Keep M H M2 H2 → ∃ vs, SqL X.K H2 p2 vs ∧ RVs G M2 H2 m vs) : ItOk G M H (zip2D l m) (Itz X.K p1 p2) := by
  intro h2 M2 H2 e r2
  obtain ⟨us, x2, rx2⟩ := x M2 H2 e
  obtain ⟨vs, y2, ry2⟩ := y M2 H2 e
  refine ⟨fun i hi => ?_, fun i hi => ⟨us, vs, x2, y2, ?_⟩⟩
  · rw [zip2D_len] at hi
    have i1 : i < l.length := by omega
    have i2 : i < m.length := by omega
    obtain ⟨u, e1, r1⟩ := rx2.get (List.getElem?_eq_getElem i1)
    obtain ⟨v, e2, r2'⟩ := ry2.get (List.getElem?_eq_getElem i2)
    refine ⟨⟨us, vs, u, v, x2, y2, e1, e2⟩, fun t H3 ht => ?_⟩
    obtain ⟨T, a, b, rfl, hT, rfl, ha, hb⟩ := ht
    have ea : a = u := by have := ha us x2; rw [e1] at this; exact (Option.some.inj this).symm
    have eb : b = v := by have := hb vs y2; rw [e2] at this; exact (Option.some.inj this).symm
    subst ea eb
    obtain ⟨M3, f1, f2, f3⟩ := new_tup gk r2 hT (.cons r1 (.cons r2' .nil))
    exact ⟨_, M3, zip2D_get l m i _ _ (List.getElem?_eq_getElem i1) (List.getElem?_eq_getElem i2), f1, f2, f3⟩
  · rw [← rx2.length, ← ry2.length]; rw [zip2D_len] at hi; omega
end
theorem bt_zip : bootBuiltins "zip" = some (.type "zip") := by decide +kernel
def iZip3 (K : PySem.W.Frag) (ta : TA) : TI := fun σ H R => ta σ H fun vs H1 => ∃ a b c xs ys zs, vs = [.ref a, .ref b, .ref c] ∧ SqT K H1 a xs ∧ SqT K H1 b ys ∧ SqT K H1 c zs ∧ R (Iz3 K a b c) H1
theorem pi_zip3 {X : Cx} {e e2 e3 : Expr} {ta : TA} {p pos tpos : Pos} {elts : List Expr} {kk : Nat} (hg : Gl X "zip") (hm : X.mg "zip" = none) (ha : PA X [e, e2, e3] ta)
    (hs : starEach [e, e2, e3] X.env = (false, eval e X.env) :: starEach [e2, e3] X.env) (hpl : (backTo pos (starEach [e2, e3] X.env)).any (·.1) = false) :
    PI X (.Tuple elts kk tpos) (.Call (.Name "zip" p) [e, e2, e3] [] pos) (iZip3 X.K ta) := by
  refine ⟨fun pins s σ H R I h => ?_⟩
  refine PyProof.Rows.Call_ (ld_blt I hg hm bt_zip (PyProof.Rows.callWith_type1 (thn (ha.run pos pins s σ H _ I h) fun us s1 ⟨vs, H1, I1, r1, q1⟩ => ?_) hs hpl))
  obtain ⟨a, b, c, xs, ys, zs, ex, qa, qb, qc, q⟩ := q1
  subst ex
  cases r1 with
  | cons p1 rr =>
  cases rr with
  | cons p2 rr =>
  cases rr with
  | cons p3 rr =>
  cases rr
  cases p1; cases p2; cases p3
  obtain ⟨ia, va, ta, _⟩ := I1.tuple qa
  obtain ⟨ib, vb, tb, _⟩ := I1.tuple qb
  obtain ⟨ic, vc, tc, _⟩ := I1.tuple qc
  have lt : ∀ {t : Addr} {its : Array Value}, PyProof.Rows.IsTup s1.heap t its → ∀ b ∈ [t], b < s1.heap.objs.size := fun {t its} ⟨o, ho, _⟩ b hb => by rw [List.mem_singleton.mp hb]; exact Heap.lt_size ho
  have sp := zip_sep3 (N := s1.heap.objs.size) (lt ta) (lt tb) (lt tc)
  refine zip_begins3 (begins_tuple _ ia.toArray) (begins_tuple _ ib.toArray) (begins_tuple _ ic.toArray) ta tb tc fun h' hz hTI hTO hi1 hi2 hi3 hsz kp => wpAny_pyIter_zip hz ?_
  have I2 : Inv X pins σ H1 { s1 with heap := h' } := I1.kept (t' := s1.toks) kp
  refine ⟨s1.heap.objs.size + 5, [s1.heap.objs.size + 5, s1.heap.objs.size + 3, s1.heap.objs.size + 4, s1.heap.objs.size, s1.heap.objs.size + 1, s1.heap.objs.size + 2], _, _, H1, rfl, I2, turn_z3 sp, ⟨hz, hTI, ⟨_, _, _, hTO⟩, ⟨_, hi1, rfl, rfl⟩, ⟨_, hi2, rfl, rfl⟩, ⟨_, hi3, rfl, rfl⟩⟩, fun b hb => ?_, q⟩
  have hle : s1.heap.objs.size ≤ b := by
    simp only [List.mem_cons, List.not_mem_nil, or_false] at hb
    rcases hb with q | q | q | q | q | q <;> rw [q] <;> first | exact Nat.le_refl _ | exact Nat.le_add_right _ _
  exact I1.fpOk hle (I1.hok.fresh hle)
/-- a tuple; a list that is written no more -/
def tupE : D → Option (List D)
  | .tup l => some l
  | _ => none
def zip2E (a b : D) : Option (List D) := match a, b with
  | .tup l, .tup m => some (zip2D l m)
  | .lst l, .lst m => some (zip2D l m)
  | _, _ => none
theorem lst_sq {X : Cx} {G : Gx} {M : Mp} {H : Hp} (gk : Gk G) {l : List D} {v : V} (r : RV G M H (.lst l) v) : ∃ p vs, v = .ref p ∧ SqL X.K H p vs ∧ RVs G M H l vs ∧ ∀ M2 H2, Keep M H M2 H2 → ∃ vs, SqL X.K H2 p vs ∧ RVs G M2 H2 l vs := by
  cases r with
  | lst hf ro =>
    have ro' := ro
    cases ro with
    | lst h1 rr =>
      refine ⟨_, _, rfl, SqL.of h1, rr, fun M2 H2 e => ?_⟩
      cases ro'.keep gk e (e.k _ hf).2 with
      | lst h r => exact ⟨_, SqL.of h, r⟩
/-- zip of two tuples, of two lists -/
def Ib.zip2 (x y : Xp) : Ib where
  sem r h := (x.sem r h).bind fun d h1 => (y.sem r h1).bind fun e h2 => ofO (zip2E d e) h2
  ok ck a := match a with
    | .Call (.Name f _) [u, v] [] _ => f == ("zip" : Str) && globB ck f && x.ok ck u && y.ok ck v
    | _ => false
  need t := BtL t "zip" ∧ x.need t ∧ y.need t
  tgt := isTupE
  set _ a h := by cases a <;> first | rfl | (simp at h)
  snd {X G ck k Wx tg a} C ht h n := by
    cases tg <;> simp only [isTupE, Bool.false_eq_true] at ht
    split at h
    · simp only [Bool.and_eq_true, beq_iff_eq] at h
      obtain ⟨⟨⟨rfl, hg⟩, h2⟩, h3⟩ := h
      obtain ⟨g1, g2, g3⟩ := gl_of C hg
      have hs := x.star _ _ h2
      have hs2 := y.star _ _ h3
      refine PI.imp (RZ.pi_zipA g1 (by rw [← C.hmg]; exact n.1) (pa_cons (x.snd C h2 n.2.1) (pa_cons (y.snd C h3 n.2.2) pa_nil (star_cons hs2 _)) (star_cons hs _)) (star_cons hs _) (stars_of (by simp [hs2]))) fun σ H R ⟨r, hh, M, rl, re, k⟩ => ⟨r, hh, M, rl, re, oneI k fun d v h1 M1 H1 e1 r1 b1 k1 => ⟨r, h1, M1, r1, re.ext C.gk rl e1, oneI k1 fun e u h2 M2 H2 e2 r2 b2 k2 => ?_⟩⟩
      have b1 := b1.ext C.gk r1 e2
      unfold zip2E at k2
      split at k2
      · cases b1 with
        | tup x1 y1 =>
          cases b2 with
          | tup x2 y2 => exact ⟨_, _, _, _, rfl, .inr ⟨x1.sq C.hK, x2.sq C.hK, k2 _ M2 H2 Ext.refl r2 (it_z2T C.gk C.hK x1 y1 x2 y2)⟩⟩
      · obtain ⟨p1, vs1, rfl, q1, w1, z1⟩ := lst_sq (X := X) C.gk b1
        obtain ⟨p2, vs2, rfl, q2, w2, z2⟩ := lst_sq (X := X) C.gk b2
        exact ⟨_, _, _, _, rfl, .inl ⟨q1, q2, k2 _ M2 H2 Ext.refl r2 (it_z2L C.gk z1 z2)⟩⟩
      · exact k2.elim
    · cases h
def zip3E (a b c : D) : Option (List D) := match a, b, c with
  | .tup l, .tup m, .tup n => some (zip3D l m n)
  | _, _, _ => none
/-- zip of three tuples -/
def Ib.zip3 (x y z : Xp) : Ib where
  sem r h := (x.sem r h).bind fun d h1 => (y.sem r h1).bind fun e h2 => (z.sem r h2).bind fun f h3 => ofO (zip3E d e f) h3
  ok ck a := match a with
    | .Call (.Name f _) [u, v, w] [] _ => f == ("zip" : Str) && globB ck f && x.ok ck u && y.ok ck v && z.ok ck w
    | _ => false
  need t := BtL t "zip" ∧ x.need t ∧ y.need t ∧ z.need t
  tgt := isTupE
  set _ a h := by cases a <;> first | rfl | (simp at h)
  snd {X G ck k Wx tg a} C ht h n := by
    cases tg <;> simp only [isTupE, Bool.false_eq_true] at ht
    split at h
    · simp only [Bool.and_eq_true, beq_iff_eq] at h
      obtain ⟨⟨⟨⟨rfl, hg⟩, h2⟩, h3⟩, h4⟩ := h
      obtain ⟨g1, g2, g3⟩ := gl_of C hg
      have hs := x.star _ _ h2
      have hs2 := y.star _ _ h3
      have hs3 := z.star _ _ h4
      refine PI.imp (pi_zip3 g1 (by rw [← C.hmg]; exact n.1) (pa_cons (x.snd C h2 n.2.1) (pa_cons (y.snd C h3 n.2.2.1) (pa_cons (z.snd C h4 n.2.2.2) pa_nil (star_cons hs3 _)) (star_cons hs2 _)) (star_cons hs _)) (star_cons hs _) (stars_of (by simp [hs2, hs3]))) fun σ H R ⟨r, hh, M, rl, re, k⟩ => ⟨r, hh, M, rl, re, oneI k fun d v h1 M1 H1 e1 r1 b1 k1 => ⟨r, h1, M1, r1, re.ext C.gk rl e1, oneI k1 fun e u h2 M2 H2 e2 r2 b2 k2 => ⟨r, h2, M2, r2, (re.ext C.gk rl e1).ext C.gk r1 e2, oneI k2 fun f w h3 M3 H3 e3 r3 b3 k3 => ?_⟩⟩⟩
      have b1 := (b1.ext C.gk r1 e2).ext C.gk r2 e3
      have b2 := b2.ext C.gk r2 e3
      unfold zip3E at k3
      split at k3
      · cases b1 with
        | tup x1 y1 =>
          cases b2 with
          | tup x2 y2 =>
            cases b3 with
            | tup x3 y3 => exact ⟨_, _, _, _, _, _, rfl, x1.sq C.hK, x2.sq C.hK, x3.sq C.hK, k3 _ M3 H3 Ext.refl r3 (it_z3 C.gk C.hK x1 y1 x2 y2 x3 y3)⟩
      · exact k3.elim
    · cases h
end Pf

set_option Elab.async false
set_option linter.all false
set_option maxRecDepth 100000
/-! ## try that runs through, a new list by +, own len -/
namespace Pf
open PySem L2
def noXo : Out → Out
  | .exc _ _ _ _ => .no
  | o => o
@[simp] theorem noXo_nx {r : Rho} {h : Hh} : noXo (.nx r h) = .nx r h := rfl
@[simp] theorem noXo_rt {d : D} {h : Hh} : noXo (.rt d h) = .rt d h := rfl
@[simp] theorem noXo_no : noXo .no = .no := rfl
theorem Cok.nox {X : Cx} {G : Gx} {ck : Ck} {k : Nat} {Wx : WX} (C : Cok X G ck k Wx) : Cok X.nox G ck k (fun _ _ _ _ => False) :=
  ⟨C.hK, C.hmg, C.hN, C.hsc, C.calm, C.nd, C.room, fun _ _ ⟨_, _, _, _, _, _, _, _, _, _, _, _, _, _, _, _, z⟩ => z, PassesOwn.never, C.fn, C.gk⟩
/-- try: .. except ..: .., where the body raises nothing -/
def Sm.tryN (a : List Si) : Sm where
  sem r h := noXo (semSs a r h)
  ok ck st := match st with
    | .Try b hs [] [] _ => okSs a ck b && !hs.isEmpty
    | _ => false
  need z := needSs a z
  snd {X G ck k Wx st} C hk h n := by
    split at h
    · rename_i b hs p
      simp only [Bool.and_eq_true, Bool.not_eq_true'] at h
      cases hs with
      | nil => simp at h
      | cons h0 hs =>
        refine PS.imp (ps_try_thru0 (sndSs a (C.nox) hk h.1 n)) fun Dn σ H ⟨M0, H0, r, hh, M, s, k⟩ => ⟨M0, H0, r, hh, M, s, ?_⟩
        dsimp only at k
        cases q : semSs a r hh <;> rw [q] at k <;> first | exact k | exact (show False from k).elim
    · cases h
/-- x + y, lists, as a new thing -/
def Xn.add (x : Xo) (y : Xo) : Xn where
  sem r h := (x.sem r h).bind fun d h1 => (y.sem r h1).bind fun e h2 => match vw h2 d, vw h2 e with
    | some (.lst l), some (.lst m) => if l.length + m.length ≤ line then .ok (.lst (l ++ m)) h2 else .no
    | _, _ => .no
  ok ck a := match a with
    | .BinOp u .Add v _ => x.ok ck u && y.ok ck v
    | _ => false
  need t := x.need t ∧ y.need t
  star _ a h := by cases a <;> first | rfl | (simp at h)
  snd {X G ck k Wx a} C h n := by
    split at h
    · simp only [Bool.and_eq_true] at h
      refine PE.imp (pe_op op_cat (x.snd C h.1 n.1) (y.snd C h.2 n.2)) fun σ H Qv ⟨r, h, M, rl, re, k⟩ => ⟨r, h, M, rl, re, one k fun d v h1 M1 H1 e1 r1 b1 k1 =>
        ⟨r, h1, M1, r1, re.ext C.gk rl e1, one k1 fun e u h2 M2 H2 e2 r2 b2 k2 => ?_⟩⟩
      try dsimp only at k2
      split at k2
      · rename_i l m q1 q2
        split at k2
        · rename_i hk
          obtain ⟨p1, vs1, rfl, h1, rv1⟩ := (vw_ok r2 (b1.ext C.gk r1 e2) q1).lst
          obtain ⟨p2, vs2, rfl, h2, rv2⟩ := (vw_ok r2 b2 q2).lst
          exact ⟨_, _, _, _, rfl, rfl, h1, h2, by rw [← rv1.length, ← rv2.length, ← line_eq]; exact hk, fun p hp => kn_list C.gk (e1.trans e2) r2 (rv1.append rv2) k2 p hp⟩
        · exact k2.elim
      · exact k2.elim
    · cases h
/-! ### len(x), x an instance of a slot class with its own __len__ -/
def LenL (t : Tb) (c : Nat) (F : Fsem) : Prop := ∃ C g fd ps, t.G.mg (nmC c) = some (.ref C) ∧ isSl c = true ∧ PySem.W.findIn t.G.K (.ref C) "__len__" = some (some (.ref g)) ∧ PySem.W.isFn t.G.K (.ref g) = true ∧ Binds t.G.K fd ps [] ∧ FnOk t.P t.w t.G.K t.G.mg t.base (CX t.P t.w) t.k g fd ps (lift t.G F)
def lenR : Res D → Res D
  | .ok (.int n) h => if 0 ≤ n ∧ n < 9223372036854775808 then .ok (.int n) h else .no
  | _ => .no
def rLenO (G : Gx) (c : Nat) (F : Fsem) : List V → Hp → VK → Prop := fun vs H Qv => ∃ d d' v h M n h', vs = [v] ∧ RL G h M H ∧ RV G M H d v ∧ vw h d = some d' ∧ isIns c d' = true ∧ F [d] h = .ok (.int n) h' ∧ 0 ≤ n ∧ n < 9223372036854775808 ∧ KP G h' M H (.int n) Qv
theorem call_lenO {X : Cx} {G : Gx} {ck : Ck} {k : Nat} {Wx : WX} (C : Cok X G ck k Wx) {c : Nat} {F : Fsem} (t : LenL (tbOf X G k) c F) : CallR X (.builtin "len") (rLenO G c F) := by
  intro pins s σ H vs us Qv I rvs ⟨d, d', v, h, M, n, h', ev, rl, rv, e, hi, eF, n0, n1, q⟩
  subst ev
  obtain ⟨u, rfl, ru⟩ := rvs.one
  obtain ⟨Ca, g, fd, ps, hm, hsl, hl, hf, hb, Fo⟩ := t
  dsimp only at hm hl hf hb Fo
  rw [C.hK] at hl hf hb Fo
  rw [C.hmg] at Fo
  cases d' <;> simp only [isIns, Bool.false_eq_true] at hi
  have hi := eq_of_beq hi
  subst hi
  obtain ⟨a, rfl, ro⟩ := (vw_ok rl (.inl rv) e).thing trivial
  obtain rfl : u = Value.ref a := ru
  have hs : lift G F ([.ref a] ++ []) H (fun z H' => ∃ i, z = .int i ∧ 0 ≤ i ∧ i < 9223372036854775808 ∧ Qv z H') (fun _ _ _ => False) := ⟨[d], h, M, rl, .cons rv .nil, by
    rw [eF]
    exact fun v2 M' H' e' rl' rv' => by cases rv'; exact ⟨n, rfl, n0, n1, q _ M' H' e' rl' (.int _)⟩⟩
  have FR : FnR X.prog X.w X.K X.mg X.base (L2.CX X.prog X.w) k g (fun vs H Q E => lift G F (vs ++ []) H Q E) := FnOk.raw Fo hb .nil
  have hx : Passes (L2.CX X.prog X.w) X (fun _ _ _ => False) := fun pins σ H s e s' _ ⟨_, _, _, _, _, _, _, _, _, _, _, _, z⟩ => z.elim
  have fin : ∀ {vsl : List (Option V)} {dx : Addr}, SlX.Slt H a Ca dx vsl → wpAny (model X.prog X.w) X.A (call (.builtin "len") [.ref a]) (EP X pins σ Qv) X.xe s := by
    intro vsl dx hh
    obtain ⟨sl, od, _, J, _⟩ := SlX.slt_inst I hh
    obtain ⟨m, hF⟩ := I.fr
    refine PySem.W.len_K hF I.ok.mod.kin J hl hf (wpAny_mono (wpAny_call (SlX.run_at (us := [.ref a]) (ws := [.ref a]) FR (C.room.mono (by omega) : Room (k + 1) X.A).in1 I.env0.in1 hx I (.cons rfl .nil) hs)) (fun w s' z => ?_) fun _ _ x => x)
    obtain ⟨z', H', I', rz, i, ei, i0, i1, qz⟩ := z
    subst ei
    obtain ⟨t, e⟩ := (show ∃ t, w = Value.int i t from rz)
    cases e
    exact ⟨⟨i0, by simpa using i1⟩, .int i, H', I'.tok _, ⟨_, rfl⟩, qz⟩
  cases ro with
  | ins i m hh r => rw [hsl] at i; cases i
  | sl0 i m hh =>
    rw [hm] at m; cases m
    exact fin (.inl ⟨hh, rfl⟩)
  | sl1 i m hh hF hxd so r =>
    rw [hm] at m; cases m
    exact fin (.inr ⟨hh, hxd⟩)
def Xp.lenO (c : Nat) (F : Fsem) (x : Xp) : Xp where
  sem r h := (x.sem r h).bind fun d h1 => match vw h1 d with
    | some d' => if isIns c d' then lenR (F [d] h1) else .no
    | none => .no
  ok ck a := match a with
    | .Call (.Name f _) [e] [] _ => f == ("len" : Str) && globB ck f && x.ok ck e
    | _ => false
  need t := BtL t "len" ∧ LenL t c F ∧ x.need t
  star _ a h := by cases a <;> first | rfl | (simp at h)
  snd {X G ck k Wx a} C h n := by
    split at h
    · simp only [Bool.and_eq_true, beq_iff_eq] at h
      obtain ⟨⟨rfl, hg⟩, h2⟩ := h
      obtain ⟨g1, g2, g3⟩ := gl_of C hg
      have hs := x.star _ _ h2
      refine PE.imp (pe_callB (call_lenO C n.2.1) g1 (by rw [← C.hmg]; exact n.1) bt_len (pa_cons (x.snd C h2 n.2.2) pa_nil (star_cons hs _)) g3 g2 (star_cons hs _) (stars_of (by simp))) fun σ H Qv ⟨r, hh, M, rl, re, k⟩ => ⟨r, hh, M, rl, re, one k fun d v h1 M1 H1 e1 r1 b1 k1 => ?_⟩
      try dsimp only at k1
      split at k1
      · rename_i d' q
        split at k1
        · rename_i hi
          cases q2 : F [d] h1 with
          | no => rw [q2] at k1; exact k1.elim
          | exc c fs h' => rw [q2] at k1; exact k1.elim
          | ok z h' =>
            rw [q2] at k1
            cases z with
            | int n =>
              simp only [lenR] at k1
              split at k1
              · rename_i hn
                exact ⟨d, d', v, h1, M1, n, h', rfl, r1, b1, q, hi, q2, hn.1, hn.2, k1⟩
              · exact k1.elim
            | _ => exact k1.elim
        · exact k1.elim
      · exact k1.elim
    · cases h
end Pf

set_option Elab.async false
set_option linter.all false
set_option maxRecDepth 100000
set_option maxHeartbeats 1000000
/-! ## tuple(zip(a, b)) of two tuples -/
namespace Pf
open PySem L2
section
variable {prog : Program} {w : World} {A : Around} {E : Value → Shared → Prop} {s : Shared} {z TI TO T i1 i2 l1 l2 : Addr} {f : Bool} {oT : Obj} {k1 k2 : Nat} {xs ys : Array Value}
theorem zipT_held {x y : Value} {Q : Option Value → Shared → Prop} (D : ZipApart z TI TO i1 i2 l1 l2) (hz : IsZipHeld s.heap z TI TO T f) (hT : s.heap.get? T = some oT) (hTI : IsPair s.heap TI (.ref i1) (.ref i2)) (h1 : s.heap.IsTupleIter i1 l1 k1) (h2 : s.heap.IsTupleIter i2 l2 k2) (hl1 : s.heap.IsTuple l1 xs) (hl2 : s.heap.IsTuple l2 ys) (hx : xs[k1]? = some x) (hy : ys[k2]? = some y)
    (hQ : ∀ h', IsZipHeld h' z TI TO T true → h'.IsTupleIter i1 l1 (k1 + 1) → h'.IsTupleIter i2 l2 (k2 + 1) → IsPair h' s.heap.objs.size x y → h'.objs.size = s.heap.objs.size + 1 → (∀ c o, c ≠ z → c ≠ i1 → c ≠ i2 → s.heap.get? c = some o → h'.get? c = some o) → Q (some (.ref s.heap.objs.size)) { s with heap := h' }) :
    wpAny (model prog w) A (pyNext (.ref z)) Q E s := by
  have hTy : s.TypeIs (.ref z) "zip" := ⟨_, hz, rfl⟩
  unfold pyNext
  refine wpAny_bind (wpAny_attempt (wpAny_callSpecial?_slot (name := Str.ofString "__next__") hTy F.slot_zip_next (wpAny_call_entry F.slot_zip_next hTy F.entry_zip_next ?_ (F.args_zip_next_1 _))))
  show wpAny _ _ (field (.ref z) 2 >>= _) _ _ _
  refine wpAny_bind (wpAny_field hz rfl (x := .bool false) rfl ?_)
  show wpAny _ _ (field (.ref z) 3 >>= _) _ _ _
  refine wpAny_bind (wpAny_field hz rfl (x := .ref TI) rfl (wpAny_bind (wpAny_seqItems hTI rfl ?_)))
  show wpAny _ _ (Builtin.SmallTypes.ownedTupleIsFree (.ref z) >>= _) _ _ _
  refine wpAny_bind (wpAny_tupleHeld_zip hz hT fun h₁ hz₁ hs₁ => ?_)
  simp only [Bool.false_eq_true, if_false]
  refine wpAny_bind ?_
  rw [← Array.forIn_toList]
  simp only [List.forIn_cons, List.forIn_nil]
  refine wpAny_bind (wpAny_bind (wpAny_holding ?_))
  show wpAny _ _ (Builtin.SmallTypes.nextOf (.ref i1) >>= _) _ _ _
  refine wpAny_bind (RZ.nextOf_tuple_item (s := { s with heap := h₁ }) (h1.extBut hs₁.extBut D.i1z) (hl1.extBut hs₁.extBut D.l1z) hx fun h₂ h1₂ hs₂ => wpAny_pure (wpAny_pure (wpAny_bind (wpAny_bind (wpAny_holding ?_)))))
  show wpAny _ _ (Builtin.SmallTypes.nextOf (.ref i2) >>= _) _ _ _
  refine wpAny_bind (RZ.nextOf_tuple_item (s := { s with heap := h₂ }) ((h2.extBut hs₁.extBut D.i2z).extBut hs₂.extBut D.i12.symm) ((hl2.extBut hs₁.extBut D.l2z).extBut hs₂.extBut D.l2i1) hy fun h₃ h2₃ hs₃ => wpAny_pure (wpAny_pure (wpAny_pure ?_)))
  show wpAny _ _ (newTuple [x, y] >>= _) _ _ _
  refine wpAny_bind (wpAny_newTuple ?_)
  have hsz : h₃.objs.size = s.heap.objs.size := by rw [hs₃.1, hs₂.1, hs₁.1]
  have hz₃ : IsZipHeld h₃ z TI TO T true := hs₃.extBut _ _ D.i2z.symm (hs₂.extBut _ _ D.i1z.symm hz₁)
  have hk : ∀ c o, c ≠ z → c ≠ i1 → c ≠ i2 → s.heap.get? c = some o → h₃.get? c = some o := fun c o c1 c2 c3 e => hs₃.extBut _ _ c3 (hs₂.extBut _ _ c2 (hs₁.extBut _ _ c1 e))
  have h1₃ : h₃.IsTupleIter i1 l1 (k1 + 1) := h1₂.extBut hs₃.extBut D.i12
  refine wpAny_pure ⟨_, rfl, wpAny_pure ?_⟩
  show Q (some (.ref h₃.objs.size)) _
  have hp : IsPair (h₃.push { cls := .type "tuple", data := .seq #[x, y] }) h₃.objs.size x y := Heap.get?_push_size _ rfl
  have hz4 : (h₃.push { cls := .type "tuple", data := .seq #[x, y] }).objs.size = h₃.objs.size + 1 := Heap.size_push ..
  rw [hsz] at hp hz4 ⊢
  exact hQ _ (Heap.get?_push_of_some _ hz₃) (h1₃.at fun o e => Heap.get?_push_of_some _ e) (h2₃.at fun o e => Heap.get?_push_of_some _ e) hp hz4 fun c o c1 c2 c3 e => Heap.get?_push_of_some _ (hk c o c1 c2 c3 e)
theorem zipT_heldEnd {Q : Option Value → Shared → Prop} (hh : A.handled = none) (D : ZipApart z TI TO i1 i2 l1 l2) (hz : IsZipHeld s.heap z TI TO T f) (hT : s.heap.get? T = some oT) (hTI : IsPair s.heap TI (.ref i1) (.ref i2)) (h1 : s.heap.IsTupleIter i1 l1 k1) (h2 : s.heap.IsTupleIter i2 l2 k2) (hl1 : s.heap.IsTuple l1 xs) (hl2 : s.heap.IsTuple l2 ys) (hend : xs[k1]? = none ∨ ys[k2]? = none)
    (hQ : ∀ h', (∀ c o, c ≠ z → c ≠ i1 → c ≠ i2 → s.heap.get? c = some o → h'.get? c = some o) → Q none { s with heap := h' }) :
    wpAny (model prog w) A (pyNext (.ref z)) Q E s := by
  have hTy : s.TypeIs (.ref z) "zip" := ⟨_, hz, rfl⟩
  have stop : ∀ (h' : Heap) (e : Addr), (∀ c o, c ≠ z → c ≠ i1 → c ≠ i2 → s.heap.get? c = some o → h'.get? c = some o) → (∃ o, h'.get? e = some o ∧ o.cls = .type "StopIteration") →
      wpAny (model prog w) A (isInstance (.ref e) (.type "StopIteration")) (fun b s' => wpAny (model prog w) A (if b = true then pure none else throw (Value.ref e)) Q E s') E { s with heap := h' } := fun h' e hk ⟨o, ho, hc⟩ =>
    wpAny_isInstance (T := "StopIteration") (b := true) ⟨o, ho, hc⟩ isSubtype_stop (wpAny_pure (hQ _ hk))
  unfold pyNext
  refine wpAny_bind (wpAny_attempt (wpAny_callSpecial?_slot (name := Str.ofString "__next__") hTy F.slot_zip_next (wpAny_call_entry F.slot_zip_next hTy F.entry_zip_next ?_ (F.args_zip_next_1 _))))
  show wpAny _ _ (field (.ref z) 2 >>= _) _ _ _
  refine wpAny_bind (wpAny_field hz rfl (x := .bool false) rfl ?_)
  show wpAny _ _ (field (.ref z) 3 >>= _) _ _ _
  refine wpAny_bind (wpAny_field hz rfl (x := .ref TI) rfl (wpAny_bind (wpAny_seqItems hTI rfl ?_)))
  show wpAny _ _ (Builtin.SmallTypes.ownedTupleIsFree (.ref z) >>= _) _ _ _
  refine wpAny_bind (wpAny_tupleHeld_zip hz hT fun h₁ hz₁ hs₁ => ?_)
  simp only [Bool.false_eq_true, if_false]
  refine wpAny_bind ?_
  rw [← Array.forIn_toList]
  simp only [List.forIn_cons, List.forIn_nil]
  refine wpAny_bind (wpAny_bind (wpAny_holding ?_))
  show wpAny _ _ (Builtin.SmallTypes.nextOf (.ref i1) >>= _) _ _ _
  cases hx : xs[k1]? with
  | none =>
    refine wpAny_bind (RZ.nextOf_tuple_end (s := { s with heap := h₁ }) hh (h1.extBut hs₁.extBut D.i1z) (hl1.extBut hs₁.extBut D.l1z) hx fun h₂ e hs₂ he => ?_)
    exact wpAny_bind (stop h₂ e (fun c o c1 c2 _ x => hs₂ _ _ c2 (hs₁.extBut _ _ c1 x)) he)
  | some x =>
    have hy : ys[k2]? = none := hend.resolve_left (by rw [hx]; exact fun h => nomatch h)
    refine wpAny_bind (RZ.nextOf_tuple_item (s := { s with heap := h₁ }) (h1.extBut hs₁.extBut D.i1z) (hl1.extBut hs₁.extBut D.l1z) hx fun h₂ h1₂ hs₂ => wpAny_pure (wpAny_pure (wpAny_bind (wpAny_bind (wpAny_holding ?_)))))
    show wpAny _ _ (Builtin.SmallTypes.nextOf (.ref i2) >>= _) _ _ _
    refine wpAny_bind (RZ.nextOf_tuple_end (s := { s with heap := h₂ }) hh ((h2.extBut hs₁.extBut D.i2z).extBut hs₂.extBut D.i12.symm) ((hl2.extBut hs₁.extBut D.l2z).extBut hs₂.extBut D.l2i1) hy fun h₃ e hs₃ he => ?_)
    exact wpAny_bind (stop h₃ e (fun c o c1 c2 c3 x => hs₃ _ _ c3 (hs₂.extBut _ _ c2 (hs₁.extBut _ _ c1 x))) he)
/-- the zip at a place of its walk -/
structure Zst (h : Heap) (z TI TO i1 i2 l1 l2 S : Addr) (xs ys : Array Value) (i : Nat) : Prop where
  ti : IsPair h TI (.ref i1) (.ref i2)
  a1 : h.IsTupleIter i1 l1 i
  a2 : h.IsTupleIter i2 l2 i
  t1 : h.IsTuple l1 xs
  t2 : h.IsTuple l2 ys
  to : TO < h.objs.size
  st : (IsZip h z TI TO .none ∧ ∃ a b, IsPair h TO a b) ∨ ∃ T f oT, IsZipHeld h z TI TO T f ∧ h.get? T = some oT ∧ T ≠ z ∧ T ≠ i1 ∧ T ≠ i2 ∧ T ≠ S
/-- what was collected -/
def Zac (h : Heap) (z TO i1 i2 S : Addr) (xs ys : Array Value) (acc : List Value) : Prop := acc.Nodup ∧ ∀ (j : Nat) v, acc[j]? = some v → ∃ (T : Addr) (x y : Value), v = .ref T ∧ IsPair h T x y ∧ xs[j]? = some x ∧ ys[j]? = some y ∧ (T ≠ z ∧ T ≠ TO ∧ T ≠ i1 ∧ T ≠ i2 ∧ S < T)
theorem Zac.keep {h h' : Heap} {S : Addr} {acc : List Value} (a : Zac h z TO i1 i2 S xs ys acc) (k : ∀ c o, c ≠ z → c ≠ TO → c ≠ i1 → c ≠ i2 → c ≠ S → h.get? c = some o → h'.get? c = some o) : Zac h' z TO i1 i2 S xs ys acc := ⟨a.1, fun j v e => by
  obtain ⟨T, x, y, rfl, p, q1, q2, n1, n2, n3, n4, n5⟩ := a.2 j v e
  exact ⟨T, x, y, rfl, k _ _ n1 n2 n3 n4 (Nat.ne_of_gt n5) p, q1, q2, n1, n2, n3, n4, n5⟩⟩
theorem zloop {R : Result → Shared → Prop} {S : Addr} {res : Value} (hh : A.handled = none) (D : ZipApart z TI TO i1 i2 l1 l2) (hS : S ≠ z ∧ S ≠ TI ∧ S ≠ TO ∧ S ≠ i1 ∧ S ≠ i2 ∧ S ≠ l1 ∧ S ≠ l2) (hn : min xs.size ys.size ≤ 1000) :
    ∀ (k i : Nat) (s : Shared) (acc : List Value) (c : Nat), min xs.size ys.size - i = k → i ≤ min xs.size ys.size → Zst s.heap z TI TO i1 i2 l1 l2 S xs ys i → s.heap.get? S = some { cls := .type "list", data := .seq acc.toArray c } → acc.length = i → Zac s.heap z TO i1 i2 S xs ys acc →
    (∀ h' acc', (∀ c o, c ≠ z → c ≠ TO → c ≠ i1 → c ≠ i2 → c ≠ S → s.heap.get? c = some o → h'.get? c = some o) → (∃ c', h'.get? S = some { cls := .type "list", data := .seq acc'.toArray c' }) → acc'.length = min xs.size ys.size → Zac h' z TO i1 i2 S xs ys acc' → R (.ok (.ret res)) { s with heap := h' }) →
    codeAny (model prog w) A (.builtin "list.extend.loop" ⟨[.ref S, .ref z, res], []⟩) R s := by
  have tup_at : ∀ {h h' : Heap} {l : Addr} {its : Array Value}, h.IsTuple l its → (∀ o, h.get? l = some o → h'.get? l = some o) → h'.IsTuple l its := fun {h h' l its} ⟨o, e, q⟩ k => ⟨o, k o e, q⟩
  intro k
  induction k with
  | zero =>
    intro i s acc c hk hi Z hSl hlen hac hR
    refine codeAny_builtin F.entry_extend_loop ?_
    rw [Around.under_plainId F.plain_extend_loop _]
    show wpAny _ A.in1 (pyNext (.ref z) >>= _) _ _ s
    have he : xs[i]? = none ∨ ys[i]? = none := by
      by_cases q : xs.size ≤ ys.size
      · exact .inl (by simp; omega)
      · exact .inr (by simp; omega)
    rcases Z.st with ⟨hz, a, b, hTO⟩ | ⟨T, f, oT, hz, hT, n1, n2, n3, n4⟩
    · refine wpAny_bind (RZ.pyNext_zipT_end (A := A.in1) hh D hz Z.ti hTO Z.a1 Z.a2 Z.t1 Z.t2 he fun h' hk' => wpAny_pure ?_)
      exact hR h' acc (fun c o c1 c2 c3 c4 _ e => hk' c o c1 c2 c3 c4 e) ⟨c, hk' S _ hS.1 hS.2.2.1 hS.2.2.2.1 hS.2.2.2.2.1 hSl⟩ (by omega) (hac.keep fun c o c1 c2 c3 c4 _ e => hk' c o c1 c2 c3 c4 e)
    · refine wpAny_bind (zipT_heldEnd (A := A.in1) hh D hz hT Z.ti Z.a1 Z.a2 Z.t1 Z.t2 he fun h' hk' => wpAny_pure ?_)
      exact hR h' acc (fun c o c1 c2 c3 c4 _ e => hk' c o c1 c3 c4 e) ⟨c, hk' S _ hS.1 hS.2.2.2.1 hS.2.2.2.2.1 hSl⟩ (by omega) (hac.keep fun c o c1 c2 c3 c4 _ e => hk' c o c1 c3 c4 e)
  | succ k ih =>
    intro i s acc c hk hi Z hSl hlen hac hR
    have hx1 : i < xs.size := by omega
    have hy1 : i < ys.size := by omega
    have hx := Array.getElem?_eq_getElem hx1
    have hy := Array.getElem?_eq_getElem hy1
    refine codeAny_builtin F.entry_extend_loop ?_
    rw [Around.under_plainId F.plain_extend_loop _]
    show wpAny _ A.in1 (pyNext (.ref z) >>= _) _ _ s
    have nxt : ∀ (h' : Heap), (∀ c o, c ≠ z → c ≠ TO → c ≠ i1 → c ≠ i2 → s.heap.get? c = some o → h'.get? c = some o) → h'.objs.size = s.heap.objs.size + 1 → h'.IsTupleIter i1 l1 (i + 1) → h'.IsTupleIter i2 l2 (i + 1) → IsPair h' s.heap.objs.size xs[i] ys[i] →
        (∃ T f oT, IsZipHeld h' z TI TO T f ∧ h'.get? T = some oT ∧ T ≠ z ∧ T ≠ i1 ∧ T ≠ i2 ∧ T ≠ S) →
        wpAny (model prog w) A.in1 (updateSeq S (·.push (.ref s.heap.objs.size))) (fun _ s' => codeAny (model prog w) A (.builtin "list.extend.loop" ⟨[.ref S, .ref z, res], []⟩) R s') (fun e s' => R (.error e) s') { s with heap := h' } := by
      intro h' k' hsz b1 b2 bp ⟨T, f, oT, bz, bT, n1, n2, n3, n4⟩
      have hS' := k' S _ hS.1 hS.2.2.1 hS.2.2.2.1 hS.2.2.2.2.1 hSl
      have zl : z < s.heap.objs.size := by rcases Z.st with ⟨q, _⟩ | ⟨_, _, _, q, _⟩ <;> exact Heap.lt_size q
      have Sl := Heap.lt_size hSl
      have i1l : i1 < s.heap.objs.size := by obtain ⟨_, q, _⟩ := Z.a1; exact Heap.lt_size q
      have i2l : i2 < s.heap.objs.size := by obtain ⟨_, q, _⟩ := Z.a2; exact Heap.lt_size q
      have tol := Z.to
      refine wpAny_updateSeq hS' rfl ?_ (by rw [List.size_toArray, sizeLine_eq]; omega) (by show (acc.toArray.push _).size ≤ _; rw [Array.size_push, List.size_toArray, sizeLine_eq]; omega)
      have sb := fun (c : Addr) (o : Obj) (hc : c ≠ S) (e : h'.get? c = some o) => (Heap.get?_update_other h' (Obj.mapSeq (·.push (Value.ref s.heap.objs.size))) (Ne.symm hc)).trans e
      have up : ∀ c o, c ≠ z → c ≠ TO → c ≠ i1 → c ≠ i2 → c ≠ S → s.heap.get? c = some o → (h'.update S (Obj.mapSeq (·.push (Value.ref s.heap.objs.size)))).get? c = some o := fun c o c1 c2 c3 c4 c5 e => sb c o c5 (k' c o c1 c2 c3 c4 e)
      refine ih (i + 1) _ (acc ++ [.ref s.heap.objs.size]) _ (by omega) (by omega) ⟨up _ _ D.TIz D.TITO D.TIi1 D.TIi2 hS.2.1.symm Z.ti, b1.at fun o e => sb _ o hS.2.2.2.1.symm e, b2.at fun o e => sb _ o hS.2.2.2.2.1.symm e, tup_at Z.t1 fun o e => up _ o D.l1z D.l1TO D.l1i1 D.l1i2 hS.2.2.2.2.2.1.symm e, tup_at Z.t2 fun o e => up _ o D.l2z D.l2TO D.l2i1 D.l2i2 hS.2.2.2.2.2.2.symm e,
        by show TO < (h'.update S _).objs.size; rw [Heap.size_update, hsz]; exact Nat.lt_succ_of_lt tol, .inr ⟨T, f, oT, sb _ _ hS.1.symm bz, sb _ _ n4 bT, n1, n2, n3, n4⟩⟩ (by rw [← List.push_toArray]; exact Heap.get?_update_self (Obj.mapSeq (·.push (Value.ref s.heap.objs.size))) hS' rfl) (by simp [hlen]) ⟨?_, fun j v e => ?_⟩ fun h2 acc' k2 hS2 hl2 ha2 => hR h2 acc' (fun c o c1 c2 c3 c4 c5 e => k2 c o c1 c2 c3 c4 c5 (up c o c1 c2 c3 c4 c5 e)) hS2 hl2 ha2
      · refine List.nodup_append.mpr ⟨hac.1, by simp, fun v hv w hw q => ?_⟩
        rw [List.mem_singleton.mp hw] at q
        obtain ⟨j, hj⟩ := List.mem_iff_getElem?.mp hv
        obtain ⟨T, x, y, rfl, p, _⟩ := hac.2 j v hj
        injection q with q
        exact absurd (Heap.lt_size p) (by rw [q]; exact Nat.lt_irrefl _)
      by_cases hj : j < acc.length
      · rw [List.getElem?_append_left hj] at e
        exact (hac.keep up).2 j v e
      · rw [List.getElem?_append_right (by omega)] at e
        obtain ⟨hj2, e⟩ := List.getElem?_eq_some_iff.mp e
        have hji : j = i := by simp at hj2; omega
        subst hji
        refine ⟨s.heap.objs.size, xs[j], ys[j], ?_, sb _ _ (Nat.ne_of_gt Sl) bp, hx, hy, Nat.ne_of_gt zl, Nat.ne_of_gt tol, Nat.ne_of_gt i1l, Nat.ne_of_gt i2l, Sl⟩
        rw [← e]; simp
    rcases Z.st with ⟨hz, a, b, hTO⟩ | ⟨T, f, oT, hz, hT, n1, n2, n3, n4⟩
    · refine wpAny_bind (RZ.pyNext_zipT_item (A := A.in1) D hz Z.ti hTO Z.a1 Z.a2 Z.t1 Z.t2 hx hy fun h' c1 c2 c3 c4 c5 c6 c7 => ?_)
      show wpAny _ A.in1 (updateSeq S (·.push (.ref s.heap.objs.size)) >>= _) _ _ _
      have zl : z < s.heap.objs.size := Heap.lt_size hz
      have i1l : i1 < s.heap.objs.size := by obtain ⟨_, q, _⟩ := Z.a1; exact Heap.lt_size q
      have i2l : i2 < s.heap.objs.size := by obtain ⟨_, q, _⟩ := Z.a2; exact Heap.lt_size q
      exact wpAny_bind (wpAny_mono (nxt h' c7 c6 c3 c4 c5 ⟨s.heap.objs.size, false, _, c1, c5, Nat.ne_of_gt zl, Nat.ne_of_gt i1l, Nat.ne_of_gt i2l, Nat.ne_of_gt (Heap.lt_size hSl)⟩) (fun _ s' q => wpAny_pure ⟨plainId_quiet F.plain_extend_loop _, q⟩) fun _ _ e => e)
    · refine wpAny_bind (zipT_held (A := A.in1) D hz hT Z.ti Z.a1 Z.a2 Z.t1 Z.t2 hx hy fun h' c1 c3 c4 c5 c6 c7 => ?_)
      show wpAny _ A.in1 (updateSeq S (·.push (.ref s.heap.objs.size)) >>= _) _ _ _
      exact wpAny_bind (wpAny_mono (nxt h' (fun c o c1 _ c3 c4 e => c7 c o c1 c3 c4 e) c6 c3 c4 c5 ⟨T, true, oT, c1, c7 _ _ n1 n2 n3 hT, n1, n2, n3, n4⟩) (fun _ s' q => wpAny_pure ⟨plainId_quiet F.plain_extend_loop _, q⟩) fun _ _ e => e)
theorem nolen_zip : typeLookup (.type "zip") "__len__" = pure none := by rw [typeLookup_type, builtinLookup_eq_fast]; kernel_rfl
theorem nohint_zip : typeLookup (.type "zip") "__length_hint__" = pure none := by rw [typeLookup_type, builtinLookup_eq_fast]; kernel_rfl
/-- collect of a new zip -/
theorem collect_zip {Q : List Value → Shared → Prop} {a b : Value} (hh : A.handled = none) (D : ZipApart z TI TO i1 i2 l1 l2) (hn : min xs.size ys.size ≤ 1000) (hz : IsZip s.heap z TI TO .none) (hTI : IsPair s.heap TI (.ref i1) (.ref i2)) (hTO : IsPair s.heap TO a b) (h1 : s.heap.IsTupleIter i1 l1 0) (h2 : s.heap.IsTupleIter i2 l2 0) (hl1 : s.heap.IsTuple l1 xs) (hl2 : s.heap.IsTuple l2 ys)
    (hQ : ∀ h' acc, (∀ c o, c ≠ z → c ≠ TO → c ≠ i1 → c ≠ i2 → s.heap.get? c = some o → h'.get? c = some o) → acc.length = min xs.size ys.size → Zac h' z TO i1 i2 s.heap.objs.size xs ys acc → Q acc { s with heap := h' }) : wpAny (model prog w) A (collect (.ref z)) Q E s := by
  have lt : ∀ {c : Addr} {o : Obj}, s.heap.get? c = some o → s.heap.objs.size ≠ c := fun q => Nat.ne_of_gt (Heap.lt_size q)
  have ne : s.heap.objs.size ≠ z ∧ s.heap.objs.size ≠ TI ∧ s.heap.objs.size ≠ TO ∧ s.heap.objs.size ≠ i1 ∧ s.heap.objs.size ≠ i2 ∧ s.heap.objs.size ≠ l1 ∧ s.heap.objs.size ≠ l2 := ⟨lt hz, lt hTI, lt hTO, by obtain ⟨_, q, _⟩ := h1; exact lt q, by obtain ⟨_, q, _⟩ := h2; exact lt q, by obtain ⟨_, q, _⟩ := hl1; exact lt q, by obtain ⟨_, q, _⟩ := hl2; exact lt q⟩
  unfold collect
  refine wpAny_bind (wpAny_runValue (codeAny_builtin F.entry_proto_collect ?_))
  rw [Around.under_plainId F.plain_proto_collect _]
  show wpAny _ A.in1 (newList [] >>= fun l => again (.builtin "list.__iadd__" ⟨[l, .ref z], []⟩)) _ _ s
  refine wpAny_bind (wpAny_newObj_type (wpAny_pure ⟨plainId_quiet F.plain_list_iadd _, codeAny_builtin F.entry_list_iadd ?_⟩))
  rw [Around.under_plainId F.plain_list_iadd _]
  show wpAny _ A.in1 (Builtin.List.listExtendWith (.ref s.heap.objs.size) (.ref z) (.ref s.heap.objs.size)) _ _ _
  have up := fun (c : Addr) (o : Obj) (e : s.heap.get? c = some o) => Heap.get?_push_of_some { cls := .type "list", data := .seq ([] : List Value).toArray } e
  have hz1 := up _ _ hz
  have hT : ({ s with heap := s.heap.push { cls := .type "list", data := .seq ([] : List Value).toArray } } : Shared).TypeIs (.ref z) "zip" := ⟨_, hz1, rfl⟩
  unfold Builtin.List.listExtendWith
  refine wpAny_bind (wpAny_typeOf hT ?_)
  have e1 : Builtin.List.listSameRef (.ref s.heap.objs.size) (.ref z) = false := by simp [Builtin.List.listSameRef, ne.1]
  have e2 : (Value.type "zip" == Value.type "list") = false := by decide
  have e3 : (Value.type "zip" == Value.type "tuple") = false := by decide
  simp only [e1, e2, e3, Bool.or_false, Bool.false_eq_true, if_false]
  refine wpAny_bind (wpAny_pyIter_zip hz1 (wpAny_bind (wpAny_holding ?_)))
  unfold Builtin.List.listLengthHint
  refine wpAny_bind (wpAny_specialOf hT nolen_zip ?_)
  show wpAny _ A.in1 (specialOf (Value.ref z) (Str.ofString "__length_hint__") >>= _) _ _ _
  refine wpAny_bind (wpAny_specialOf hT nohint_zip (wpAny_pure ?_))
  show wpAny _ A.in1 (rule "list.extend.makes-room" >>= fun _ => Builtin.List.listTouch (.ref s.heap.objs.size) >>= fun _ => again (.builtin "list.extend.loop" ⟨[.ref s.heap.objs.size, .ref z, .ref s.heap.objs.size], []⟩)) _ _ _
  refine wpAny_bind (wpAny_rule (wpAny_bind ?_))
  have hS₁ : (s.heap.push { cls := .type "list", data := .seq ([] : List Value).toArray }).get? s.heap.objs.size = some { cls := .type "list", data := .seq ([] : List Value).toArray } := Heap.get?_push_size _ rfl
  show wpAny _ A.in1 (updateSeq s.heap.objs.size (·.push .none) >>= fun _ => updateSeq s.heap.objs.size (·.pop)) _ _ _
  have hS₂ := Heap.get?_update_self (Obj.mapSeq (·.push Value.none)) hS₁ rfl
  refine wpAny_bind (wpAny_updateSeq hS₁ rfl (wpAny_updateSeq hS₂ rfl ?_))
  obtain ⟨c3, hS₃⟩ : ∃ c3, (((s.heap.push { cls := .type "list", data := .seq ([] : List Value).toArray }).update s.heap.objs.size (Obj.mapSeq (·.push Value.none))).update s.heap.objs.size (Obj.mapSeq (·.pop))).get? s.heap.objs.size = some { cls := .type "list", data := .seq ([] : List Value).toArray c3 } := ⟨_, (Heap.get?_update_self (Obj.mapSeq (·.pop)) hS₂ rfl).trans (by simp [Obj.mapSeq]; rfl)⟩
  have oth : ∀ b o, s.heap.get? b = some o → (((s.heap.push { cls := .type "list", data := .seq ([] : List Value).toArray }).update s.heap.objs.size (Obj.mapSeq (·.push Value.none))).update s.heap.objs.size (Obj.mapSeq (·.pop))).get? b = some o :=
    fun b o e => (Heap.get?_update_other _ _ (lt e)).trans ((Heap.get?_update_other _ _ (lt e)).trans (up b o e))
  have tup_at : ∀ {h h' : Heap} {l : Addr} {its : Array Value}, h.IsTuple l its → (∀ o, h.get? l = some o → h'.get? l = some o) → h'.IsTuple l its := fun {h h' l its} ⟨o, e, q⟩ k => ⟨o, k o e, q⟩
  refine wpAny_pure ⟨plainId_quiet F.plain_extend_loop _, zloop (A := A) hh D ne hn _ 0 _ [] c3 rfl (Nat.zero_le _) ⟨oth _ _ hTI, h1.at fun o e => oth _ o e, h2.at fun o e => oth _ o e, tup_at hl1 fun o e => oth _ o e, tup_at hl2 fun o e => oth _ o e, Heap.lt_size (oth _ _ hTO), .inl ⟨oth _ _ hz, _, _, oth _ _ hTO⟩⟩ hS₃ rfl ⟨List.nodup_nil, fun j v e => by simp at e⟩ fun h' acc' k' ⟨c', hS'⟩ hl ha => ?_⟩
  show wpAny _ A (load s.heap.objs.size >>= _) _ _ _
  refine wpAny_bind (wpAny_load hS' (wpAny_pure ?_))
  exact hQ h' acc' (fun c o c1 c2 c3 c4 e => k' c o c1 c2 c3 c4 (lt e).symm (oth c o e)) hl ha
/-- tuple(z), z a new zip of two tuples -/
theorem call_tuple_zip {Q : Value → Shared → Prop} {a b : Value} (hh : A.handled = none) (D : ZipApart z TI TO i1 i2 l1 l2) (hn : min xs.size ys.size ≤ 1000) (hz : IsZip s.heap z TI TO .none) (hTI : IsPair s.heap TI (.ref i1) (.ref i2)) (hTO : IsPair s.heap TO a b) (h1 : s.heap.IsTupleIter i1 l1 0) (h2 : s.heap.IsTupleIter i2 l2 0) (hl1 : s.heap.IsTuple l1 xs) (hl2 : s.heap.IsTuple l2 ys)
    (hQ : ∀ h' acc, (∀ c o, c ≠ z → c ≠ TO → c ≠ i1 → c ≠ i2 → s.heap.get? c = some o → h'.get? c = some o) → acc.length = min xs.size ys.size → Zac h' z TO i1 i2 s.heap.objs.size xs ys acc → Q (.ref h'.objs.size) { s with heap := h'.push { cls := .type "tuple", data := .seq acc.toArray } }) :
    wpAny (model prog w) A (call (.type "tuple") [.ref z]) Q E s := by
  have cd : ∀ {Q₁ : Value → Shared → Prop}, (∀ h' acc, (∀ c o, c ≠ z → c ≠ TO → c ≠ i1 → c ≠ i2 → s.heap.get? c = some o → h'.get? c = some o) → acc.length = min xs.size ys.size → Zac h' z TO i1 i2 s.heap.objs.size xs ys acc → Q₁ (.ref h'.objs.size) { s with heap := h'.push { cls := .type "tuple", data := .seq acc.toArray } }) →
      codeAny (model prog w) A.in1 (.call (.builtin "tuple.__new__") ⟨[.type "tuple", .ref z], []⟩) (wants Q₁ E) s := by
    intro Q₁ h
    refine codeAny_of_tree ?_
    show wpAny _ A.in1.in1 (do checkBuiltinCall "tuple.__new__" ⟨[.type "tuple", .ref z], []⟩; again (.builtin "tuple.__new__" ⟨[.type "tuple", .ref z], []⟩)) _ _ s
    refine wpAny_bind (wpAny_of_eq (F.newCall_tuple_1 _) (wpAny_pure ⟨plainId_quiet F.plain_tuple_new _, codeAny_builtin F.entry_tuple_new ?_⟩))
    rw [Around.under_plainId F.plain_tuple_new _]
    have hsub := sub_tuple_self
    have hinit := init_tuple_lookup
    have hmh := madeHere_tuple
    have hTz : s.TypeIs (.ref z) "zip" := ⟨_, hz, rfl⟩
    have hh1 : A.in1.in1.handled = none := hh
    wp_walk using wpAny_typeOf hTz, collect_zip (A := A.in1.in1) hh1 D hn hz hTI hTO h1 h2 hl1 hl2
    intro h' acc hk hl hacc
    show wpAny _ _ (Builtin.Tuple.tupleExact acc.toArray >>= fun v => ret v) _ _ _
    unfold Builtin.Tuple.tupleExact
    refine wpAny_bind (wpAny_newObj_type (wpAny_pure (h h' acc hk hl hacc)) (by show acc.toArray.size ≤ sizeLine; rw [List.size_toArray, sizeLine_eq]; omega))
  refine callType_codes (Q₁ := fun obj s₁ => s₁.TypeIs obj "tuple" ∧ Q obj s₁) F.called_tuple (F.typeCall_tuple_1 _) F.entry_object_init
    (cd fun h' acc hk hl hacc => ⟨⟨_, Heap.get?_push_size _ rfl, rfl⟩, hQ h' acc hk hl hacc⟩) fun obj s₁ q => ?_
  exact ⟨q.1, F.args_object_init_2 obj _, object_init_meets F.called_tuple.init.lookup F.called_tuple.made (by decide) prog w A.in1 _ s₁ ⟨q.1, rfl, q.2⟩⟩
end
end Pf

set_option Elab.async false
set_option linter.all false
set_option maxRecDepth 100000
set_option maxHeartbeats 1000000
/-! ## tuple(zip(a, b)): the expression -/
namespace Pf
open PySem L2
section
variable {X : Cx} {G : Gx} {pins : List (Addr × Obj)} {σ : St} {h : Hh}
theorem trk_pairs (gk : Gk G) {s : Shared} : ∀ (acc : List Value) (l m : List D) (us vs : List V) (xs ys : List Value) (H : Hp) (M : Mp), Inv X pins σ H s → RL G h M H → RVs G M H l us → RVs G M H m vs → Vals us xs → Vals vs ys → acc.length = min l.length m.length → acc.Nodup →
    (∀ (j : Nat) v, acc[j]? = some v → ∃ (T : Addr) (x y : Value), v = .ref T ∧ IsPair s.heap T x y ∧ xs[j]? = some x ∧ ys[j]? = some y ∧ FpOk X pins H T) →
    ∃ H' M' ws, Inv X pins σ H' s ∧ Ext M H M' H' ∧ RL G h M' H' ∧ RVs G M' H' (zip2D l m) ws ∧ Vals ws acc := by
  intro acc
  induction acc with
  | nil =>
    intro l m us vs xs ys H M I rl r1 r2 v1 v2 hl _ _
    have : zip2D l m = [] := by
      apply List.eq_nil_of_length_eq_zero
      rw [zip2D_len, ← hl]; rfl
    rw [this]
    exact ⟨H, M, [], I, Ext.refl, rl, .nil, .nil⟩
  | cons v acc ih =>
    intro l m us vs xs ys H M I rl r1 r2 v1 v2 hl hn ha
    cases r1 with
    | nil => simp at hl
    | cons d1 t1 =>
    cases r2 with
    | nil => simp at hl
    | cons d2 t2 =>
    cases v1 with
    | cons w1 z1 =>
    cases v2 with
    | cons w2 z2 =>
    obtain ⟨T, x, y, rfl, hp, e1, e2, fp⟩ := ha 0 v rfl
    simp only [List.getElem?_cons_zero, Option.some.injEq] at e1 e2
    subst e1 e2
    obtain ⟨hn1, hn2⟩ := List.nodup_cons.mp hn
    rename_i la u1 ls us lb u2 lm vs x1 xs y1 ys
    have I1 : Inv X pins σ (upd H T (.tup [u1, u2])) s := by
      have := Inv.take (o := .tup [u1, u2]) (h' := s.heap) (t' := s.toks) I (fun b ob _ q => q) fp ⟨by show 2 ≤ sizeLine; decide, [x1, y1], .cons w1 (.cons w2 .nil), ⟨_, hp, rfl, _, rfl⟩⟩
      exact this
    obtain ⟨M1, f1, f2, f3⟩ := new_tup gk rl fp.1 (.cons d1 (.cons d2 .nil))
    obtain ⟨H', M', ws, J, g1, g2, g3, g4⟩ := ih _ _ _ _ _ _ _ M1 I1 f2 (t1.ext gk rl f1) (t2.ext gk rl f1) z1 z2 (by simp at hl; omega) hn2 fun j v e => by
      obtain ⟨T', x, y, rfl, hp', e1, e2, q1, q2⟩ := ha (j + 1) v (by simpa using e)
      refine ⟨T', x, y, rfl, hp', by simpa using e1, by simpa using e2, ?_, q2⟩
      rw [upd_ne]
      · exact q1
      · intro z; subst z; exact hn1 (List.mem_of_getElem? e)
    exact ⟨H', M', .ref T :: ws, J, f1.trans g1, g2, .cons (f3.ext gk f2 g1) g3, .cons rfl g4⟩
end
def tzipE (a b : D) : Option D := match a, b with
  | .tup l, .tup m => if l.length ≤ 1000 then some (.tup (zip2D l m)) else none
  | _, _ => none
def tzipB (x y : Xp) (ck : Ck) (a : Expr) : Bool := match a with
  | .Call (.Name g _) [.Call (.Name f _) [u, v] [] _] [] _ => g == ("tuple" : Str) && f == ("zip" : Str) && globB ck g && globB ck f && x.ok ck u && y.ok ck v
  | _ => false
theorem tzipB_some {x y : Xp} {ck : Ck} {a : Expr} (h : tzipB x y ck a = true) : ∃ p q u v r t, a = .Call (.Name "tuple" p) [.Call (.Name "zip" q) [u, v] [] r] [] t ∧ globB ck "tuple" = true ∧ globB ck "zip" = true ∧ x.ok ck u = true ∧ y.ok ck v = true := by
  unfold tzipB at h
  split at h
  · simp only [Bool.and_eq_true, beq_iff_eq] at h
    obtain ⟨⟨⟨⟨⟨rfl, rfl⟩, h1⟩, h2⟩, h3⟩, h4⟩ := h
    exact ⟨_, _, _, _, _, _, rfl, h1, h2, h3, h4⟩
  · cases h
/-- tuple(zip(x, y)), tuples -/
def Xp.tzip (x y : Xp) : Xp where
  sem r h := (x.sem r h).bind fun d h1 => (y.sem r h1).bind fun e h2 => ofO (tzipE d e) h2
  ok := tzipB x y
  need t := BtL t "tuple" ∧ BtL t "zip" ∧ x.need t ∧ y.need t
  star _ a h := by obtain ⟨p, q, u, v, r, t, rfl, _⟩ := tzipB_some h; rfl
  snd {X G ck k Wx a} C h n := by
    obtain ⟨p, q, u, v, r, t, rfl, hg1, hg2, h3, h4⟩ := tzipB_some h
    obtain ⟨g1, _, _⟩ := gl_of C hg1
    obtain ⟨g2, _, _⟩ := gl_of C hg2
    have hs := x.star _ _ h3
    have hs2 := y.star _ _ h4
    have hm1 : X.mg "tuple" = none := by rw [← C.hmg]; exact n.1
    have hm2 : X.mg "zip" = none := by rw [← C.hmg]; exact n.2.1
    have hst : notStar (Expr.Call (.Name "zip" q) [u, v] [] r) = true := rfl
    have hA := pa_cons (x.snd C h3 n.2.2.1) (pa_cons (y.snd C h4 n.2.2.2) pa_nil (star_cons hs2 _)) (star_cons hs _)
    refine ⟨fun pins s σ H Qv I ⟨rr, hh, M, rl, re, k⟩ => ?_⟩
    refine PyProof.Rows.Call_ (ld_blt I g1 hm1 bt_tuple (PyProof.Rows.callWith_type1 ?_ (star_cons hst _) (stars_of (by simp))))
    rw [star_cons hst X.env]
    show wpAny _ _ (spliced ((false, eval (Expr.Call (.Name "zip" q) [u, v] [] r) X.env) :: backTo t (starEach [] X.env))) _ _ s
    refine Calls.spliced_cons (PyProof.Rows.Call_ (ld_blt I g2 hm2 bt_zip (PyProof.Rows.callWith_type1 (thn (hA.run _ pins s σ H (fun vs H1 => ∃ a b d e h1 M1, vs = [a, b] ∧ RL G h1 M1 H1 ∧ RV G M1 H1 d a ∧ RV G M1 H1 e b ∧ KG (RV G) G Wx σ M1 H1 Qv (ofO (tzipE d e) h1)) I ?_) fun us s1 ⟨vs, H1, I1, r1, a, b, d, e, h1, M1, ev, rl1, ra, rb, k1⟩ => ?_) (star_cons hs _) (stars_of (by simp [hs2])))))
    · exact ⟨rr, hh, M, rl, re, one k fun d v h1 M1 H1 e1 r1 b1 k1 => ⟨rr, h1, M1, r1, re.ext C.gk rl e1, one k1 fun e u h2 M2 H2 e2 r2 b2 k2 => ⟨v, u, d, e, h2, M2, rfl, r2, b1.ext C.gk r1 e2, b2, k2⟩⟩⟩
    · subst ev
      unfold tzipE at k1
      split at k1
      · split at k1
        · rename_i hlen
          cases ra with
          | tup xa ya =>
          cases rb with
          | tup xb yb =>
          cases r1 with
          | cons p1 r1 =>
          cases r1 with
          | cons p2 r1 =>
          cases r1
          cases p1; cases p2
          obtain ⟨ia, va, ta, _⟩ := I1.tuple (xa.sq C.hK)
          obtain ⟨ib, vb, tb, _⟩ := I1.tuple (xb.sq C.hK)
          have lv1 := va.length
          have lv2 := vb.length
          have ly1 := ya.length
          have ly2 := yb.length
          have lta := (show ∃ o, s1.heap.get? _ = some o from ⟨_, ta.choose_spec.1⟩)
          obtain ⟨oa, hoa⟩ := lta
          obtain ⟨ob, hob⟩ := (show ∃ o, s1.heap.get? _ = some o from ⟨_, tb.choose_spec.1⟩)
          refine RZ.call_zipT (show s1.heap.IsTuple _ ia.toArray from ta) (show s1.heap.IsTuple _ ib.toArray from tb) fun h' hz hTI hTO hi1 hi2 hsz kp => Calls.spliced_nil ?_
          have D := PySem.W.ktu_apart s1.heap.objs.size _ _ (Heap.lt_size hoa) (Heap.lt_size hob)
          have kt : ∀ {t : Addr} {its : Array Value}, PyProof.Rows.IsTup s1.heap t its → h'.IsTuple t its := fun {t its} ⟨o, q, z⟩ => ⟨o, kp _ _ q, z⟩
          refine call_tuple_zip (s := { s1 with heap := h' }) (I1.ok.hd C.calm) D (by simp; omega) hz hTI hTO hi1 hi2 (kt ta) (kt tb) fun h2 acc k2 hl hac => ?_
          have old : ∀ c o, s1.heap.get? c = some o → h2.get? c = some o := fun c o q => by
            have := Heap.lt_size q
            exact k2 c o (Nat.ne_of_lt (Nat.lt_of_lt_of_le this (Nat.le_add_right _ _))) (Nat.ne_of_lt (Nat.lt_of_lt_of_le this (Nat.le_add_right _ _))) (Nat.ne_of_lt this) (Nat.ne_of_lt (Nat.lt_of_lt_of_le this (Nat.le_add_right _ _))) (kp c o q)
          have I2 : Inv X pins σ H1 { s1 with heap := h2 } := I1.kept (t' := s1.toks) old
          obtain ⟨H', M', ws, J, e1, r2, rw2, vw2⟩ := trk_pairs (X := X) C.gk acc _ _ _ _ _ _ H1 M1 I2 rl1 ya yb va vb (by rw [hl]; simp; omega) hac.1 fun j v e => by
            obtain ⟨T, x, y, rfl, pp, q1, q2, _, _, _, _, n5⟩ := hac.2 j v e
            have hle : s1.heap.objs.size ≤ T := by
              have : h'.objs.size < T := n5
              omega
            exact ⟨T, x, y, rfl, pp, by simpa using q1, by simpa using q2, I1.fpOk hle (I1.hok.fresh hle)⟩
          have hf : H' h2.objs.size = none := J.hok.fresh (Nat.le_refl _)
          refine ⟨.ref h2.objs.size, upd H' h2.objs.size (.tup ws), J.laid (t' := s1.toks) (fun b u e => Heap.get?_push_of_some _ e) (Nat.le_refl _) ⟨?_, acc, vw2, ⟨_, Heap.get?_push_size _ rfl, rfl, _, rfl⟩⟩, rfl, ?_⟩
          · rw [vw2.length, hl, sizeLine_eq]; simp; omega
          · exact k1 _ _ _ (e1.trans (Ext.newF' hf)) (r2.newF C.gk hf trivial) (.tup (.inl ⟨.inr rfl, upd_same⟩) (rw2.keep C.gk (Keep.newF hf)))
        · exact k1.elim
      · exact k1.elim
end Pf

set_option Elab.async false
set_option linter.all false
set_option maxRecDepth 100000
set_option maxHeartbeats 1000000
/-! ## sorted(xs, key=f), f a def that leaves the heap -/
namespace Pf
open PySem L2
/-- the items with their keys, sorted by the keys -/
def sortByD (ds ks : List D) : List D := ((ds.zip ks).mergeSort (PySem.W.dataLe false fun p => pd p.2)).map Prod.fst
def keysOf (F : Fsem) : List D → Option (List D)
  | [] => some []
  | d :: l => match pureOf F [d] [] with
    | .ok kd _ => (keysOf F l).map (kd :: ·)
    | _ => none
theorem pure_any {F : Fsem} {ds : List D} {d : D} {h h1 h2 : Hh} (e : pureOf F ds h1 = .ok d h2) : pureOf F ds h = .ok d h := by
  unfold pureOf at e ⊢
  split at e
  · rename_i hn
    rw [if_pos hn]
    cases q : F ds [] with
    | ok d' h' =>
      rw [q] at e
      dsimp only at e ⊢
      split at e
      · rename_i hr; cases e; rw [if_pos hr]
      · cases e
    | exc c fs h' =>
      rw [q] at e
      dsimp only at e
      split at e <;> cases e
    | no => rw [q] at e; cases e
  · cases e
theorem keysOf_get {F : Fsem} (h : Hh) : ∀ {l ks : List D}, keysOf F l = some ks → ks.length = l.length ∧ ∀ (i : Nat) (d : D), l[i]? = some d → ∃ kd, ks[i]? = some kd ∧ pureOf F [d] h = .ok kd h
  | [], ks, e => by
    simp only [keysOf] at e; cases e
    exact ⟨rfl, fun i d q => by simp at q⟩
  | d :: l, ks, e => by
    simp only [keysOf] at e
    split at e
    · rename_i kd h' q
      obtain ⟨ks', e', rfl⟩ := Option.map_eq_some_iff.mp e
      obtain ⟨g1, g2⟩ := keysOf_get h e'
      refine ⟨by simp [g1], fun i d' q' => ?_⟩
      cases i with
      | zero => simp at q'; subst q'; exact ⟨kd, rfl, pure_any q⟩
      | succ i => simpa using g2 i d' (by simpa using q')
    · cases e
theorem each_keys {G : Gx} {M : Mp} {H : Hp} : ∀ {ds ks : List D} {vs : List V} {us : List Value}, ks.length = ds.length → RVs G M H ds vs → Vals vs us → PySem.W.EachIs (fun v (p : D × D) => ∃ x, RelV x v ∧ RV G M H p.1 x) us (ds.zip ks)
  | [], [], _, _, _, rv, ru => by cases rv; cases ru; exact .nil
  | d :: ds, k :: ks, _, _, hl, rv, ru => by
    cases rv with
    | cons r1 r2 =>
      cases ru with
      | cons u1 u2 => exact .cons ⟨_, u1, r1⟩ (each_keys (by simpa using hl) r2 u2)
  | [], _ :: _, _, _, hl, _, _ => by simp at hl
  | _ :: _, [], _, _, hl, _, _ => by simp at hl
theorem keys_back {G : Gx} {M : Mp} {H : Hp} : ∀ {l : List (D × D)} {us : List Value}, PySem.W.EachIs (fun v (p : D × D) => ∃ x, RelV x v ∧ RV G M H p.1 x) us l → ∃ vs, Vals vs us ∧ RVs G M H (l.map Prod.fst) vs
  | _, _, .nil => ⟨[], .nil, .nil⟩
  | _, _, .cons h t => by
    obtain ⟨x, r1, r2⟩ := h
    obtain ⟨vs, h1, h2⟩ := keys_back t
    exact ⟨x :: vs, .cons r1 h1, .cons r2 h2⟩
theorem RVs.snoc {G : Gx} {M : Mp} {H : Hp} {d : D} {v : V} : ∀ {l : List D} {vs : List V}, RVs G M H l vs → RV G M H d v → RVs G M H (l ++ [d]) (vs ++ [v])
  | _, _, .nil, h => .cons h .nil
  | _, _, .cons a t, h => .cons a (t.snoc h)
theorem vals_snoc {v : V} {u : Value} : ∀ {vs : List V} {us : List Value}, Vals vs us → RelV v u → Vals (vs ++ [v]) (us ++ [u])
  | _, _, .nil, h => .cons h .nil
  | _, _, .cons a t, h => .cons a (vals_snoc t h)
theorem get_freed {h : Heap} {a b : Addr} {o : Obj} (e : (h.update a fun o => { o with data := .freed }).get? b = some o) : b ≠ a ∧ h.get? b = some o := by
  by_cases z : b = a
  · subst z
    exfalso
    unfold Heap.get? Heap.update at e
    split at e
    · cases e
    · rename_i q2
      simp only [Array.getElem?_modify, if_true] at q2 e
      cases w : h.objs[b]? with
      | none => rw [w] at e; cases e
      | some o' =>
        rw [w] at q2
        exact q2 _ _ _ rfl
  · exact ⟨z, by rw [← Heap.get?_update_ne _ _ _ _ z]; exact e⟩
section
variable {X : Cx} {G : Gx} {ck : Ck} {k : Nat} {Wx : WX} {pins : List (Addr × Obj)} {σ : St} {H : Hp} {s : Shared} {h : Hh} {M : Mp}
theorem each_pd {h : Heap} : ∀ {us : List Value} {l : List D}, PySem.W.EachIs (fun v c => ∃ as, Reads h v (pd c) as) us l → PySem.W.EachIs (fun v d => ∃ as, Reads h v d as) us (l.map pd)
  | _, _, .nil => .nil
  | _, _, .cons a t => .cons a (each_pd t)
theorem sort_fold (C : Cok X G ck k Wx) {F : Fsem} {f : Addr} (FR : FnR X.prog X.w X.K X.mg X.base (L2.CX X.prog X.w) k f (fun vs H Q E => lift G (pureOf F) (vs ++ []) H Q E)) {a kS : Addr} {e1 : Nat} (I : Inv X pins σ H s) (ra : FbM.Rec X pins a) (rk : FbM.Rec X pins kS) (na : H a = none) (nk : H kS = none) (hka : kS ≠ a) (ga : s.heap.get? a = some (PyProof.Rows.seqObj "list" #[] e1)) (gk : s.heap.get? kS = some (PyProof.Rows.seqObj "list" #[] 0))
    (fa : ∀ H' : Hp, H' a = none → FpOk X pins H' a) (fk : ∀ H' : Hp, H' kS = none → FpOk X pins H' kS) (rl : RL G h M H) {ds ks : List D} {vs : List V} {its : List Value} (rv : RVs G M H ds vs) (ri : Vals vs its) (kl : ks.length = ds.length) (kF : ∀ (i : Nat) (d : D), ds[i]? = some d → ∃ kd, ks[i]? = some kd ∧ pureOf F [d] h = .ok kd h) (hok : sortOk ks = true) (hlen : ds.length ≤ line)
    {P : PySem.Fin → Shared → Prop} {E' : Value → Shared → Prop} (q : ∀ (M' : Mp) (H' : Hp) (ys : List V) (s3 : Shared), Inv X pins σ (upd H' a (.lst ys)) s3 → Ext M H M' H' → RL G h M' H' → H' a = none → RVs G M' H' (sortByD ds ks) ys → P (.done (.ret .none)) s3) :
    wpAny (model X.prog X.w) X.A.in1.in1 (PyProof.Rows.ksk_rest a (.ref f) false its.toArray e1 (.ref kS)) P E' s := by
  obtain ⟨o1, o2, o3⟩ := sortOk_some hok
  have ll : its.length = ds.length := by rw [← ri.length, ← rv.length]
  have hsl : its.length ≤ sizeLine := by rw [ll, ← line_eq]; exact hlen
  unfold PyProof.Rows.ksk_rest
  refine wpAny_bind (wpAny_rule ?_)
  first
    | rw [List.forIn_toArray]
    | (rw [← Array.forIn_toList]; simp only [List.toList_toArray])
  refine wpAny_bind (PyProof.Rows.ksk_fold (fun i s' => ∃ H' M' kvs kA e, Inv X pins σ H' s' ∧ Ext M H M' H' ∧ RL G h M' H' ∧ RVs G M' H' (ks.take i) kvs ∧ Vals kvs kA ∧ s'.heap.get? kS = some (PyProof.Rows.seqObj "list" (List.toArray kA) e) ∧ s'.heap.get? a = some (PyProof.Rows.seqObj "list" #[] e1) ∧ H' kS = none ∧ H' a = none) its 0 s
    ⟨H, M, [], [], 0, I, Ext.refl, rl, by simp; exact .nil, .nil, gk, ga, nk, na⟩ ?step ?done)
  case step =>
    rintro j x s' hx ⟨H', M', kvs, kA, e, I', e', rl', rk', vk', gk', ga', nk', na'⟩
    simp only [Nat.zero_add] at rk' ⊢
    have hj : j < its.length := (List.getElem?_eq_some_iff.mp hx).1
    have hd := List.getElem?_eq_getElem (l := ds) (show j < ds.length by omega)
    obtain ⟨w, hw, rw'⟩ := rv.get hd
    obtain ⟨u, hu, ru⟩ := ri.get hw
    have : u = x := Option.some.inj (hu.symm.trans hx)
    subst this
    obtain ⟨kd, hkd, eF⟩ := kF j _ hd
    have hs : lift G (pureOf F) ([w] ++ []) H' (fun z H'' => ∃ M'', Ext M' H' M'' H'' ∧ RL G h M'' H'' ∧ RV G M'' H'' kd z) (fun _ _ _ => False) := ⟨[_], h, M', rl', .cons (rw'.ext C.gk rl e') .nil, by
      rw [eF]
      exact fun v M'' H'' e2 rl2 rv2 => ⟨M'', e2, rl2, rv2⟩⟩
    have hr : Room k X.A.in1.in1 := (show Room (k + 1) X.A.in1 from Room.in1 C.room).in1
    have st : wpAny (model X.prog X.w) X.A.in1.in1 (call (.ref f) [u]) (CE X.stack X.prog X.w H' s' (fun z H'' => ∃ M'', Ext M' H' M'' H'' ∧ RL G h M'' H'' ∧ RV G M'' H'' kd z)) (fun _ _ => False) s' := by
      refine wpAny_call (codeAny_mono (FR X.A.in1.in1 X.stack s' H' [u] [w] _ _ hr I'.env0.in1.in1 (.cons ru .nil) hs) fun r s'' hq => ?_)
      cases r with
      | error e =>
        obtain ⟨_, _, _, _, _, _, _, _, _, _, _, _, z⟩ := hq
        exact z
      | ok fl => cases fl <;> first | exact hq | exact False.elim hq
    refine wpAny_bind (wpAny_attempt (wpAny_mono st (fun v s'' ce => ?_) fun _ _ z => False.elim z))
    obtain ⟨z, H'', os, bare, un, hk, rz, M'', e2, rl2, rv2⟩ := ce
    have I2 : Inv X pins σ H'' s'' := I'.call' os un hk bare (fun b y => absurd y List.not_mem_nil)
    have gk2 := un.keep _ _ gk' nk' rk.fr List.not_mem_nil
    have ga2 := un.keep _ _ ga' na' ra.fr List.not_mem_nil
    have nk2 := un.free _ _ gk' nk' List.not_mem_nil
    have na2 := un.free _ _ ga' na' List.not_mem_nil
    try dsimp only
    have s1 := Heap.SameBut.update s''.heap kS (Obj.mapSeq (·.push v))
    obtain ⟨c2, hc2⟩ : ∃ c2, (s''.heap.update kS (Obj.mapSeq (·.push v))).get? kS = some (PyProof.Rows.seqObj "list" ((List.toArray kA).push v) c2) := ⟨_, PyProof.Rows.get?_update_seq gk2 (·.push v)⟩
    have hsz : kA.length ≤ j := by
      rw [← vk'.length, ← rk'.length, List.length_take]; omega
    have ek : ks.take (j + 1) = ks.take j ++ [kd] := by rw [List.take_add_one, hkd]; simp
    refine wpAny_bind (PyProof.Rows.listUpdate_at gk2 rfl ?_ (by rw [List.size_toArray]; omega) (by rw [Array.size_push, List.size_toArray]; omega))
    refine wpAny_pure ⟨rfl, H'', M'', kvs ++ [z], kA ++ [v], c2, rk.turn (t' := s''.toks) I2 nk2 fun c o hc q => (s1.2 c hc).trans q, e'.trans e2, rl2, ?_, vals_snoc vk' rz, ?_, (s1.2 a hka.symm).trans ga2, nk2, na2⟩
    · rw [ek]; exact (rk'.ext C.gk rl' e2).snoc rv2
    · rw [← List.push_toArray]; exact hc2
  case done =>
    rintro s' ⟨H', M', kvs, kA, e, I', e', rl', rk', vk', gk', ga', nk', na'⟩
    rw [Nat.zero_add, List.take_of_length_le (by omega)] at rk'
    obtain ⟨_, r2⟩ := each_of C.hK I' o1 rk' vk'
    have hA : kA.length = its.length := by rw [← vk'.length, ← rk'.length]; omega
    try dsimp only
    refine wpAny_bind (PyProof.Rows.listItems_at gk' rfl ?_)
    have r3 : PySem.W.EachIs (fun v d => ∃ as, Reads s'.heap v d as) kA (ks.map pd) := by
      exact each_pd r2
    have hS := PySem.W.SortsAt.data (prog := X.prog) (w := X.w) (A := X.A.in1.in1) (s := s') r3 o2 o3 fun d hd => by
      obtain ⟨c, hc, rfl⟩ := List.mem_map.mp hd
      have h3 := (canLay_dep 58 c (o1 c hc)).2
      have h4 := C.room.un
      show X.A.units + 1 + 1 + (pd c).depth < cLine
      omega
    refine PySem.W.keyH_end (κ := PySem.W.dataKind s'.heap (ks.map pd)) (h₁ := s'.heap.update kS fun o => { o with data := .freed }) (fun b o hb q => (get_freed q).2) (by
      cases q : (s'.heap.update kS fun o => { o with data := .freed }).get? kS with
      | none => rfl
      | some o => exact absurd rfl (get_freed q).1) gk' ga' hka (by simpa using hS) (by simpa using hA) hsl fun h3 tk3 c k3 n3 => ?_
    · have old : ∀ b o, b ≠ a → b ≠ kS → s'.heap.get? b = some o → h3.get? b = some o := fun b o h1 h2 q => k3 b o h1 ((Heap.get?_update_ne _ _ _ _ h2).trans q)
      have I3 : Inv X pins σ H' { s' with heap := h3, toks := tk3 } := I'.turnedL (ch := [a, kS]) (fun b o hb q => by simp at hb; exact old b o hb.1 hb.2 q) fun b hb => by
        simp at hb
        rcases hb with rfl | rfl
        · exact fa _ na'
        · exact fk _ nk'
      have ko : PySem.W.KeyedOut false ((ds.zip ks).map fun p => pd p.2) its (PySem.W.sortVals (PySem.W.dataKind s'.heap (ks.map pd)) false kA its) := by
        have ez : ((ds.zip ks).map fun p => pd p.2) = ks.map pd := by
          have := List.map_snd_zip (l₁ := ds) (l₂ := ks) (by omega)
          conv => rhs; rw [← this]
          rw [List.map_map]; rfl
        rw [ez]
        exact ⟨s'.heap, kA, o2, rfl, r3⟩
      obtain ⟨ys, y1, y2⟩ := keys_back (PySem.W.keyedOut_each (fun p => pd p.2) ko (each_keys kl (rv.ext C.gk rl e') ri))
      have hyl : ys.length ≤ sizeLine := by rw [← y2.length, List.length_map, List.length_mergeSort, List.length_zip, ← line_eq]; omega
      exact q M' H' ys _ (Inv.take (s := { s' with heap := h3, toks := tk3 }) (o := .lst ys) (h' := h3) (t' := tk3) I3 (fun b ob _ q => q) (fa _ na') ⟨hyl, _, c, y1, n3⟩) e' rl' na' y2
theorem sorted_key (C : Cok X G ck k Wx) {F : Fsem} {f : Addr} {fd : FuncData} {ps : List Str} (hb : Binds X.K fd ps []) (Fo : FnOk X.prog X.w X.K X.mg X.base (CX X.prog X.w) k f fd ps (lift G (pureOf F))) (I : Inv X pins σ H s) (rl : RL G h M H) {l : Addr} {ds ks : List D} {vs : List V} (hl : SqL X.K H l vs) (rv : RVs G M H ds vs)
    (hks : keysOf F ds = some ks) (hok : sortOk ks = true) (hlen : ds.length ≤ line) {Qv : VK} (q : ∀ (M' : Mp) (H' : Hp) (ys : List V) (p : Addr), Ext M H M' H' → RL G h M' H' → RVs G M' H' (sortByD ds ks) ys → H' p = none → H p = none → Qv (.ref p) (upd H' p (.lst ys))) :
    wpAny (model X.prog X.w) X.A (call (.builtin "sorted") [.ref l] [(Str.ofString "key", .ref f)]) (EP X pins σ Qv) X.xe s := by
  obtain ⟨kl, kF⟩ := keysOf_get h hks
  obtain ⟨o1, o2, o3⟩ := sortOk_some hok
  obtain ⟨its, ri, pl, hz⟩ := I.list hl
  have ll : its.length = ds.length := by rw [← ri.length, ← rv.length]
  have FR : FnR X.prog X.w X.K X.mg X.base (L2.CX X.prog X.w) k f (fun vs H Q E => lift G (pureOf F) (vs ++ []) H Q E) := FnOk.raw Fo hb .nil
  have hsl : its.length ≤ sizeLine := by rw [ll, ← line_eq]; exact hlen
  refine PySem.W.sorted_of_sort pl.isList hsl (PyProof.Rows.ksk_s1 _ _) (fun x => PyProof.Rows.ksk_l1 _ _) fun E' => ?_
  rw [PyProof.Rows.ksk_t1]
  unfold PyProof.Rows.ksk_tree
  have ho := PySem.W.copyHeap_at s.heap its
  obtain ⟨e1, ho1⟩ : ∃ e1, ((PySem.W.copyHeap s.heap its).update (s.heap.objs.size + 1) (Obj.mapSeq fun _ => (#[] : Array Value))).get? (s.heap.objs.size + 1) = some (PyProof.Rows.seqObj "list" #[] e1) := ⟨_, PyProof.Rows.get?_update_seq ho fun _ => #[]⟩
  refine wpAny_bind (PyProof.Rows.listItems_at ho rfl ?_)
  refine wpAny_bind (PyProof.Rows.listUpdate_at ho rfl ?_ (by rw [List.size_toArray]; exact hsl) (Nat.zero_le _))
  refine wpAny_bind (PyProof.Rows.seqEpoch_at ho1 rfl ?_)
  refine wpAny_bind (wpAny_newTuple ?_ (by show its.length ≤ _; exact hsl))
  refine wpAny_bind (wpAny_newList ?_ (Nat.zero_le _))
  refine wpAny_holding ?_
  have sz1 : (PySem.W.copyHeap s.heap its).objs.size = s.heap.objs.size + 2 := by
    unfold PySem.W.copyHeap
    rw [PyProof.Rows.size_push', Heap.size_update, PyProof.Rows.size_push']
  have sz2 : (((PySem.W.copyHeap s.heap its).update (s.heap.objs.size + 1) (Obj.mapSeq fun _ => (#[] : Array Value))).push (PyProof.Rows.seqObj "tuple" its.toArray 0)).objs.size = s.heap.objs.size + 3 := by
    rw [PyProof.Rows.size_push', Heap.size_update, sz1]
  have old : ∀ b o, s.heap.get? b = some o → (PySem.W.sortingHeap (PySem.W.copyHeap s.heap its) (s.heap.objs.size + 1) its).get? b = some o := fun b o q => PySem.W.sortingHeap_old (Nat.ne_of_lt (Nat.lt_succ_of_lt (Heap.lt_size q))) (PySem.W.copyHeap_old q)
  have I1 : Inv X pins σ H { s with heap := PySem.W.sortingHeap (PySem.W.copyHeap s.heap its) (s.heap.objs.size + 1) its } := I.kept (t' := s.toks) old
  have l1 : s.heap.objs.size ≤ s.heap.objs.size + 1 := Nat.le_add_right _ _
  have l3 : s.heap.objs.size ≤ s.heap.objs.size + 3 := Nat.le_add_right _ _
  show wpAny _ _ (PyProof.Rows.ksk_rest _ _ _ _ _ (.ref (((PySem.W.copyHeap s.heap its).update (s.heap.objs.size + 1) (Obj.mapSeq fun _ => (#[] : Array Value))).push (PyProof.Rows.seqObj "tuple" its.toArray 0)).objs.size)) _ _ { s with heap := PySem.W.sortingHeap (PySem.W.copyHeap s.heap its) (s.heap.objs.size + 1) its }
  have gS : (PySem.W.sortingHeap (PySem.W.copyHeap s.heap its) (s.heap.objs.size + 1) its).get? (s.heap.objs.size + 3) = some (PyProof.Rows.seqObj "list" #[] 0) := by
    rw [← sz2]; exact Heap.get?_push_size _ rfl
  have gA : (PySem.W.sortingHeap (PySem.W.copyHeap s.heap its) (s.heap.objs.size + 1) its).get? (s.heap.objs.size + 1) = some (PyProof.Rows.seqObj "list" #[] e1) := Heap.get?_push_of_some _ (Heap.get?_push_of_some _ ho1)
  rw [sz2]
  refine sort_fold C FR I1 (FbM.rec_new I l1) (FbM.rec_new I l3) (I.hok.fresh l1) (I.hok.fresh l3) (fun z => absurd (Nat.add_left_cancel z) (by decide)) gA gS (fun H' n => I.fpOk l1 n) (fun H' n => I.fpOk l3 n) rl rv ri kl kF hok hlen fun M' H' ys s3 I3 e' rl' n y => ⟨rfl, .ref (s.heap.objs.size + 1), upd H' (s.heap.objs.size + 1) (.lst ys), I3, rfl, q M' H' ys _ e' rl' y n (I.hok.fresh l1)⟩
end
def rSortK (G : Gx) (F : Fsem) (f : Addr) : List V → List V → Hp → VK → Prop := fun vs zs H Qv => ∃ d e v h M l ks, vs = [v] ∧ zs = [.ref f] ∧ RL G h M H ∧ RB G M H d v ∧ vw h d = some e ∧ e = .lst l ∧ keysOf F l = some ks ∧ sortOk ks = true ∧ l.length ≤ line ∧
  ∀ (M' : Mp) (H' : Hp) (ys : List V) (p : Addr), Ext M H M' H' → RL G h M' H' → RVs G M' H' (sortByD l ks) ys → H' p = none → H p = none → Qv (.ref p) (upd H' p (.lst ys))
def sortKB (f : Str) (x : Xo) (ck : Ck) (a : Expr) : Bool := match a with
  | .Call (.Name g _) [e] [⟨some kw, .Name y _, _⟩] _ => g == ("sorted" : Str) && kw == ("key" : Str) && y == f && globB ck g && globB ck f && x.ok ck e
  | _ => false
theorem sortKB_some {f : Str} {x : Xo} {ck : Ck} {a : Expr} (h : sortKB f x ck a = true) : ∃ p e q r t, a = .Call (.Name "sorted" p) [e] [⟨some "key", .Name f q, r⟩] t ∧ globB ck "sorted" = true ∧ globB ck f = true ∧ x.ok ck e = true := by
  unfold sortKB at h
  split at h
  · simp only [Bool.and_eq_true, beq_iff_eq] at h
    obtain ⟨⟨⟨⟨⟨rfl, rfl⟩, rfl⟩, h1⟩, h2⟩, h3⟩ := h
    exact ⟨_, _, _, _, _, rfl, h1, h2, h3⟩
  · cases h
def sortKR (F : Fsem) (h : Hh) : Option D → Res D
  | some (.lst l) => match keysOf F l with
    | some ks => if sortOk ks ∧ l.length ≤ line then .ok (.lst (sortByD l ks)) h else .no
    | none => .no
  | _ => .no
/-- sorted(x, key=f) -/
def Xn.sortK (f : Str) (F : Fsem) (x : Xo) : Xn where
  sem r h := (x.sem r h).bind fun d h1 => sortKR F h1 (vw h1 d)
  ok := sortKB f x
  need t := BtL t "sorted" ∧ FnL t f (pureOf F) ∧ x.need t
  star _ a h := by obtain ⟨p, e, q, r, t, rfl, _⟩ := sortKB_some h; rfl
  snd {X G ck k Wx a} C h n := by
    obtain ⟨p, e, q, r, t, rfl, hg1, hg2, h3⟩ := sortKB_some h
    obtain ⟨g1, g2, g3⟩ := gl_of C hg1
    obtain ⟨g4, g5, g6⟩ := gl_of C hg2
    have hs := x.star _ _ h3
    obtain ⟨n1, ⟨fa, fd, ps, hm, hk, hb, Fo⟩, n3⟩ := n
    dsimp only at hm hk hb Fo
    rw [C.hK] at hb Fo
    rw [C.hmg] at Fo hm
    have cr : CallRK X (.builtin "sorted") [Str.ofString "key"] (rSortK G F fa) := by
      intro pins s σ H vs zs us ws Qv I rv rz ⟨d, e, v, h, M, l, ks, ev, ez, rl, rd, ew, el, ek, ho, hl, kq⟩
      subst ev ez el
      obtain ⟨w, rfl, rw1⟩ := rz.one
      cases (show w = Value.ref fa from rw1)
      obtain ⟨p1, vs1, rfl, sq, rv1⟩ := (vw_ok rl rd ew).lst
      rw [Vals.ref1 rv]
      exact sorted_key C hb Fo I rl (SqL.of sq) rv1 ek ho hl kq
    refine PE.imp (pe_callBK cr g1 (by rw [← C.hmg]; exact n1) bt_sorted (pa_cons (x.snd C h3 n3) pa_nil (star_cons hs _)) (pk_cons (pe_glob g4 hm (show RelV (.ref fa) _ from rfl) g5) pk_nil) g3 g2 (by rw [star_cons hs]; rfl) (by rw [star_cons hs]; rfl)) fun σ H Qv ⟨r, hh, M, rl, re, k⟩ => ⟨r, hh, M, rl, re, one k fun d v h1 M1 H1 e1 r1 b1 k1 => ?_⟩
    unfold sortKR at k1
    split at k1
    · rename_i l ew
      split at k1
      · rename_i ks ek
        split at k1
        · rename_i hok
          refine ⟨d, _, v, h1, M1, l, ks, rfl, rfl, r1, b1, ew, rfl, ek, hok.1, hok.2, fun M' H' ys p e2 r2 y n1 n2 => ?_⟩
          exact k1 _ M' _ (e2.trans (Ext.loose n1)) (r2.poke C.gk (r2.free n1) (r2.freeF n1) (nt_none n1)) ⟨p, rfl, .lst upd_same (y.keep C.gk (Keep.new n1)), r2.free n1, r2.freeF n1, e1.trk _ n2⟩
        · exact k1.elim
      · exact k1.elim
    · exact k1.elim
end Pf

set_option Elab.async false
set_option linter.all false
/-! ## what the newer bundles compute -/
namespace Pf
open PySem L2
section
variable {r : Rho} {h : Hh}
@[simp] theorem mi_en {x : Xp} : (Ib.en x).sem r h = (x.sem r h).bind fun d h1 => ofO ((items d).map (enumD 0)) h1 := rfl
@[simp] theorem mi_zip2 {x y : Xp} : (Ib.zip2 x y).sem r h = (x.sem r h).bind fun d h1 => (y.sem r h1).bind fun e h2 => ofO (zip2E d e) h2 := rfl
@[simp] theorem mi_zip3 {x y z : Xp} : (Ib.zip3 x y z).sem r h = (x.sem r h).bind fun d h1 => (y.sem r h1).bind fun e h2 => (z.sem r h2).bind fun f h3 => ofO (zip3E d e f) h3 := rfl
@[simp] theorem m_tzip {x y : Xp} : (Xp.tzip x y).sem r h = (x.sem r h).bind fun d h1 => (y.sem r h1).bind fun e h2 => ofO (tzipE d e) h2 := rfl
@[simp] theorem m_lenO {c : Nat} {F : Fsem} {x : Xp} : (Xp.lenO c F x).sem r h = (x.sem r h).bind fun d h1 => match vw h1 d with
    | some d' => if isIns c d' then lenR (F [d] h1) else .no
    | none => .no := rfl
@[simp] theorem mn_add {x y : Xo} : (Xn.add x y).sem r h = (x.sem r h).bind fun d h1 => (y.sem r h1).bind fun e h2 => match vw h2 d, vw h2 e with
    | some (.lst l), some (.lst m) => if l.length + m.length ≤ line then .ok (.lst (l ++ m)) h2 else .no
    | _, _ => .no := rfl
@[simp] theorem mn_sortK {f : Str} {F : Fsem} {x : Xo} : (Xn.sortK f F x).sem r h = (x.sem r h).bind fun d h1 => sortKR F h1 (vw h1 d) := rfl
@[simp] theorem ms_tryN {a : List Si} : (Sm.tryN a).sem r h = noXo (semSs a r h) := rfl
end
end Pf

set_option Elab.async false
set_option linter.all false
set_option maxRecDepth 100000
/-! ## What texts lean on, as equations; classes and constants as the head tells them -/
namespace Pf
open PySem L2
theorem nd_Xp_v {tb : Tb} {i : Nat} : (Xp.v i).need tb = (True) := rfl
theorem nd_Xo_v {tb : Tb} {i : Nat} : (Xo.v i).need tb = (True) := rfl
theorem nd_Xp_c {tb : Tb} {d : D} : (Xp.c d).need tb = (True) := rfl
theorem nd_Xp_g {tb : Tb} {y : Str} {d : D} : (Xp.g y d).need tb = (GvL tb y d) := rfl
theorem nd_Xp_neg {tb : Tb} {x : Xp} : (Xp.neg x).need tb = ((x.need) tb) := rfl
theorem nd_Xp_bin {tb : Tb} {o : Operator} {x y : Xo} : (Xp.bin o x y).need tb = (x.need tb ∧ y.need tb) := rfl
theorem nd_Xp_cmp {tb : Tb} {o : CmpOp} {x y : Xo} : (Xp.cmp o x y).need tb = (x.need tb ∧ y.need tb) := rfl
theorem nd_Xt_cmp {tb : Tb} {o : CmpOp} {x y : Xo} : (Xt.cmp o x y).need tb = (x.need tb ∧ y.need tb) := rfl
theorem nd_Xt_e {tb : Tb} {x : Xo} : (Xt.e x).need tb = ((x.need) tb) := rfl
theorem nd_Xt_not {tb : Tb} {x : Xt} : (Xt.not x).need tb = ((x.need) tb) := rfl
theorem nd_Xt_and {tb : Tb} {x y : Xt} : (Xt.and x y).need tb = (x.need tb ∧ y.need tb) := rfl
theorem nd_Xt_or {tb : Tb} {x y : Xt} : (Xt.or x y).need tb = (x.need tb ∧ y.need tb) := rfl
theorem nd_Xp_and {tb : Tb} {x y : Xp} : (Xp.and x y).need tb = (x.need tb ∧ y.need tb) := rfl
theorem nd_Xp_or {tb : Tb} {x y : Xp} : (Xp.or x y).need tb = (x.need tb ∧ y.need tb) := rfl
theorem nd_Xp_not {tb : Tb} {x : Xp} : (Xp.not x).need tb = ((x.need) tb) := rfl
theorem nd_Xp_ite {tb : Tb} {t : Xt} {x y : Xp} : (Xp.ite t x y).need tb = (t.need tb ∧ x.need tb ∧ y.need tb) := rfl
theorem nd_Xp_chain {tb : Tb} {o p : CmpOp} {x y z : Xo} : (Xp.chain o p x y z).need tb = (x.need tb ∧ y.need tb ∧ z.need tb) := rfl
theorem nd_Xt_chain {tb : Tb} {o p : CmpOp} {x y z : Xo} : (Xt.chain o p x y z).need tb = (x.need tb ∧ y.need tb ∧ z.need tb) := rfl
theorem nd_Xp_ix {tb : Tb} {x y : Xo} : (Xp.ix x y).need tb = (x.need tb ∧ y.need tb) := rfl
theorem nd_Xp_sl {tb : Tb} {x : Xo} {lo hi : Option Xp} : (Xp.sl x lo hi).need tb = (x.need tb ∧ needO lo tb ∧ needO hi tb) := rfl
theorem nd_Xp_tup {tb : Tb} {xs : List Xp} : (Xp.tup xs).need tb = ((needA xs) tb) := rfl
theorem nd_Xp_fz {tb : Tb} {x : Xn} : (Xp.fz x).need tb = ((x.need) tb) := rfl
theorem nd_Xp_hp {tb : Tb} {x : Xn} : (Xp.hp x).need tb = ((x.need) tb) := rfl
theorem nd_Xn_lst {tb : Tb} {xs : List Xp} : (Xn.lst xs).need tb = ((needA xs) tb) := rfl
theorem nd_Xp_call {tb : Tb} {f : Str} {F : Fsem} {xs : List Xp} : (Xp.call f F xs).need tb = (FnL tb f F ∧ needA xs tb) := rfl
theorem nd_Xp_bi {tb : Tb} {f : Bi} {xs : List Xo} : (Xp.bi f xs).need tb = (BtL tb (biName f) ∧ needB xs tb) := rfl
theorem nd_Xn_bi {tb : Tb} {f : Bn} {xs : List Xo} : (Xn.bi f xs).need tb = (BtL tb (bnName f) ∧ needB xs tb) := rfl
theorem nd_Xp_isi {tb : Tb} {c : Kd} {x : Xo} : (Xp.isi c x).need tb = (BtL tb "isinstance" ∧ BtL tb (kdName c : Str) ∧ x.need tb) := rfl
theorem nd_Ib_seq {tb : Tb} {x : Xp} : (Ib.seq x).need tb = ((x.need) tb) := rfl
theorem nd_Ib_r1 {tb : Tb} {x : Xp} : (Ib.r1 x).need tb = (BtL tb "range" ∧ x.need tb) := rfl
theorem nd_Ib_r2 {tb : Tb} {x y : Xp} : (Ib.r2 x y).need tb = (BtL tb "range" ∧ x.need tb ∧ y.need tb) := rfl
theorem nd_Xn_lc {tb : Tb} {e : Xp} {t : Tg} {it : Ib} {ifs : Option Xt} {own : List (Str × Nat)} : (Xn.lc e t it ifs own).need tb = (e.need tb ∧ it.need tb ∧ needT ifs tb) := rfl
theorem nd_Sm_asg {tb : Tb} {t : Tg} {x : Xp} : (Sm.asg t x).need tb = ((x.need) tb) := rfl
theorem nd_Sm_asgO {tb : Tb} {i : Nat} {x : Xn} : (Sm.asgO i x).need tb = ((x.need) tb) := rfl
theorem nd_Sm_asgLc {tb : Tb} {i : Nat} {e : Xp} {t : Tg} {it : Ib} {ifs : Option Xt} {own : List (Str × Nat)} : (Sm.asgLc i e t it ifs own).need tb = (((Xn.lc e t it ifs own).need) tb) := rfl
theorem nd_Sm_asgOLc {tb : Tb} {i : Nat} {e : Xp} {t : Tg} {it : Ib} {ifs : Option Xt} {own : List (Str × Nat)} : (Sm.asgOLc i e t it ifs own).need tb = (((Xn.lc e t it ifs own).need) tb) := rfl
theorem nd_Sm_ex {tb : Tb} {x : Xp} : (Sm.ex x).need tb = ((x.need) tb) := rfl
theorem nd_Sm_ret {tb : Tb} {x : Xp} : (Sm.ret x).need tb = ((x.need) tb) := rfl
theorem nd_Sm_retN {tb : Tb}  : (Sm.retN).need tb = (True) := rfl
theorem nd_Sm_pass {tb : Tb}  : (Sm.pass).need tb = (True) := rfl
theorem nd_Sm_brk {tb : Tb}  : (Sm.brk).need tb = (True) := rfl
theorem nd_Sm_cont {tb : Tb}  : (Sm.cont).need tb = (True) := rfl
theorem nd_Sm_nev {tb : Tb}  : (Sm.nev).need tb = (True) := rfl
theorem nd_Sm_doc {tb : Tb}  : (Sm.doc).need tb = (True) := rfl
theorem nd_Sm_ife {tb : Tb} {t : Xt} {a b : List Si} : (Sm.ife t a b).need tb = (t.need tb ∧ needSs a tb ∧ needSs b tb) := rfl
theorem nd_Sm_for_ {tb : Tb} {t : Tg} {it : Ib} {body : List Si} : (Sm.for_ t it body).need tb = (it.need tb ∧ needSs body tb) := rfl
theorem nd_Sm_whl {tb : Tb} {n : Nat} {t : Xt} {body : List Si} : (Sm.whl n t body).need tb = (t.need tb ∧ needSs body tb) := rfl
theorem nd_Sm_par {tb : Tb} {is : List Nat} {xs : List Xa} : (Sm.par is xs).need tb = ((needX xs) tb) := rfl
theorem nd_Sm_app {tb : Tb} {j : Nat} {x : Xp} : (Sm.app j x).need tb = ((x.need) tb) := rfl
theorem nd_Xp_app {tb : Tb} {o x : Xp} : (Xp.app o x).need tb = (o.need tb ∧ x.need tb) := rfl
theorem nd_Sm_setO {tb : Tb} {j : Nat} {i e : Xp} : (Sm.setO j i e).need tb = (i.need tb ∧ e.need tb) := rfl
theorem nd_Sm_setH {tb : Tb} {o i e : Xp} : (Sm.setH o i e).need tb = (o.need tb ∧ i.need tb ∧ e.need tb) := rfl
theorem nd_Xp_at {tb : Tb} {c f : Nat} {x : Xo} : (Xp.at c f x).need tb = (FldL tb c f ∧ x.need tb) := rfl
theorem nd_Xp_prop {tb : Tb} {c : Nat} {f : Str} {F : Fsem} {x : Xp} : (Xp.prop c f F x).need tb = (PropL tb c f F ∧ x.need tb) := rfl
theorem nd_Xp_mc {tb : Tb} {c : Nat} {m : Str} {F : Fsem} {o : Xp} {xs : List Xp} : (Xp.mc c m F o xs).need tb = (MethL tb c m F ∧ o.need tb ∧ needA xs tb) := rfl
theorem nd_Sm_setA {tb : Tb} {c f : Nat} {o e : Xp} : (Sm.setA c f o e).need tb = (FldL tb c f ∧ o.need tb ∧ e.need tb) := rfl
theorem nd_Xp_mkF {tb : Tb} {c : Nat} {F : Fsem} {xs : List Xp} : (Xp.mkF c F xs).need tb = (MkL tb c F ∧ needA xs tb) := rfl
theorem nd_Xp_mkH {tb : Tb} {c : Nat} {F : Fsem} {xs : List Xp} : (Xp.mkH c F xs).need tb = (MkL tb c F ∧ needA xs tb) := rfl
theorem nd_Xp_mul {tb : Tb} {x y : Xo} : (Xp.mul x y).need tb = (x.need tb ∧ y.need tb) := rfl
theorem nd_Xn_rep {tb : Tb} {x : Xo} {y : Xo} : (Xn.rep x y).need tb = (x.need tb ∧ y.need tb) := rfl
theorem nd_Xp_tupS {tb : Tb} {xs : List Xs} : (Xp.tupS xs).need tb = ((needS xs) tb) := rfl
theorem nd_Xn_lstS {tb : Tb} {xs : List Xs} : (Xn.lstS xs).need tb = ((needS xs) tb) := rfl
theorem nd_Ib_en {tb : Tb} {x : Xp} : (Ib.en x).need tb = (BtL tb "enumerate" ∧ x.need tb) := rfl
theorem nd_Ib_zip2 {tb : Tb} {x y : Xp} : (Ib.zip2 x y).need tb = (BtL tb "zip" ∧ x.need tb ∧ y.need tb) := rfl
theorem nd_Ib_zip3 {tb : Tb} {x y z : Xp} : (Ib.zip3 x y z).need tb = (BtL tb "zip" ∧ x.need tb ∧ y.need tb ∧ z.need tb) := rfl
theorem nd_Sm_tryN {tb : Tb} {a : List Si} : (Sm.tryN a).need tb = (needSs a tb) := rfl
theorem nd_Xn_add {tb : Tb} {x : Xo} {y : Xo} : (Xn.add x y).need tb = (x.need tb ∧ y.need tb) := rfl
theorem nd_Xp_lenO {tb : Tb} {c : Nat} {F : Fsem} {x : Xp} : (Xp.lenO c F x).need tb = (BtL tb "len" ∧ LenL tb c F ∧ x.need tb) := rfl
theorem nd_Xp_tzip {tb : Tb} {x y : Xp} : (Xp.tzip x y).need tb = (BtL tb "tuple" ∧ BtL tb "zip" ∧ x.need tb ∧ y.need tb) := rfl
theorem nd_Xn_sortK {tb : Tb} {f : Str} {F : Fsem} {x : Xo} : (Xn.sortK f F x).need tb = (BtL tb "sorted" ∧ FnL tb f (pureOf F) ∧ x.need tb) := rfl
theorem nd_o {tb : Tb} {x : Xp} : (x.o).need tb = (x.need tb) := rfl
theorem nd_al {tb : Tb} {x : Xp} : Xa.need (.inl x) tb = x.need tb := rfl
theorem nd_ar {tb : Tb} {x : Xn} : Xa.need (.inr x) tb = x.need tb := rfl
/-- a member of a class that is a plain def -/
structure MemAt (K : PySem.W.Frag) (C : Addr) (m qual : Str) (st : Stmt) : Prop where
  ex : ∃ (g : Addr) (fd : FuncData), PySem.W.findIn K (.ref C) m = some (some (.ref g)) ∧ PySem.W.isFn K (.ref g) = true ∧ Fun K m qual st g fd
/-- a property of a class -/
structure PropAt (K : PySem.W.Frag) (C : Addr) (f qual : Str) (st : Stmt) : Prop where
  ex : ∃ (p g : Addr) (fd : FuncData), PropOf K C f p g ∧ Fun K f qual st g fd
section
variable {P : Program} {w : World} {G : Gx} {base : Heap} {k j : Nat} {f qual : Str} {st : Stmt} {C : Addr} {c : Nat} {N ps : List Str} {ss : List Si} {F : Fsem}
theorem Fun.bd {a : Addr} {fd : FuncData} (F : Fun G.K f qual st a fd) (hb : ∀ (kV doc pm : Value) (an : Option Addr) (cdv ct : Value) (us : List Value), us.length = ps.length → bindArgs (PySem.W.fnOf f qual (defArgs st) (defBody st) (defScope st) .none kV doc pm an cdv ct) ⟨us, []⟩ = pure (ps.zip us)) : Binds G.K fd ps [] := F.binds hb
theorem DefAt.fnm (gk : Gk G) (D : DefAt G.K G.mg f st) (hsc : FnScope N ps (defScope st)) (ok : okSs ss ⟨N, defScope st, false⟩ (defBody st) = true) (nd : needSs ss ⟨P, w, G, base, k⟩)
    (hb : ∀ (kV doc pm : Value) (an : Option Addr) (cdv ct : Value) (us : List Value), us.length = ps.length → bindArgs (PySem.W.fnOf f f (defArgs st) (defBody st) (defScope st) .none kV doc pm an cdv ct) ⟨us, []⟩ = pure (ps.zip us)) (hj : k + 3 ≤ j) : FnL ⟨P, w, G, base, j⟩ f (fnF N.length ps.length ss) :=
  FnL.mono (t := ⟨P, w, G, base, j⟩) (DefAt.fn gk D hsc ok nd hb) hj
theorem PropAt.fnm (gk : Gk G) (D : PropAt G.K C f qual st) (hc : G.mg (nmC c) = some (.ref C)) (sl : isSl c = true) (sc : SlX.SCls G.K C) (hsc : FnScope N ps (defScope st)) (ok : okSs ss ⟨N, defScope st, false⟩ (defBody st) = true) (nd : needSs ss ⟨P, w, G, base, k⟩)
    (hb : ∀ (kV doc pm : Value) (an : Option Addr) (cdv ct : Value) (us : List Value), us.length = ps.length → bindArgs (PySem.W.fnOf f qual (defArgs st) (defBody st) (defScope st) .none kV doc pm an cdv ct) ⟨us, []⟩ = pure (ps.zip us)) (hj : k + 3 ≤ j) : PropL ⟨P, w, G, base, j⟩ c f (pureOf (fnF N.length ps.length ss)) := by
  obtain ⟨p, g, fd, hp, Fn⟩ := D.ex
  exact ⟨C, p, g, fd, ps, ⟨hc, .inr ⟨sl, sc⟩⟩, hp, Fn.binds hb, ((fnok_L gk Fn hsc ok nd).mono hj).imp fun vs H Q E x => lift_pure gk x⟩
theorem MemAt.mkL (gk : Gk G) (D : MemAt G.K C "__init__" qual st) (hc : G.mg (nmC c) = some (.ref C)) (mk : PySem.W.makesIn G.K C = true) (kc : PySem.W.keepIn G.K (.ref C) = true) (hsc : FnScope N ps (defScope st)) (ok : okSs ss ⟨N, defScope st, false⟩ (defBody st) = true) (nd : needSs ss ⟨P, w, G, base, k⟩)
    (hb : ∀ (kV doc pm : Value) (an : Option Addr) (cdv ct : Value) (us : List Value), us.length = ps.length → bindArgs (PySem.W.fnOf "__init__" qual (defArgs st) (defBody st) (defScope st) .none kV doc pm an cdv ct) ⟨us, []⟩ = pure (ps.zip us)) (hj : k + 3 ≤ j) : MkL ⟨P, w, G, base, j⟩ c (fnF N.length ps.length ss) := by
  obtain ⟨g, fd, h1, h2, Fn⟩ := D.ex
  exact ⟨C, g, fd, ps, hc, ⟨mk, h1, h2, kc⟩, Fn.binds hb, (fnok_L gk Fn hsc ok nd).mono hj⟩
theorem MemAt.lenL (gk : Gk G) (D : MemAt G.K C "__len__" qual st) (hc : G.mg (nmC c) = some (.ref C)) (sl : isSl c = true) (hsc : FnScope N ps (defScope st)) (ok : okSs ss ⟨N, defScope st, false⟩ (defBody st) = true) (nd : needSs ss ⟨P, w, G, base, k⟩)
    (hb : ∀ (kV doc pm : Value) (an : Option Addr) (cdv ct : Value) (us : List Value), us.length = ps.length → bindArgs (PySem.W.fnOf "__len__" qual (defArgs st) (defBody st) (defScope st) .none kV doc pm an cdv ct) ⟨us, []⟩ = pure (ps.zip us)) (hj : k + 3 ≤ j) : LenL ⟨P, w, G, base, j⟩ c (pureOf (fnF N.length ps.length ss)) := by
  obtain ⟨g, fd, h1, h2, Fn⟩ := D.ex
  exact ⟨C, g, fd, ps, hc, sl, h1, h2, Fn.binds hb, ((fnok_L gk Fn hsc ok nd).mono hj).imp fun vs H Q E x => lift_pure gk x⟩
theorem fld_sl {t : Tb} {c f : Nat} {C p : Addr} {i : Nat} (hf : f < 33) (hc : t.G.mg (nmC c) = some (.ref C)) (sl : isSl c = true) (sc : SlX.SCls t.G.K C) (s1 : SlX.Slot1 t.G.K C (nmF f) p i) (hi : (slTab c).lookup f = some i) : FldL t c f := ⟨hf, C, hc, .inr ⟨sl, sc, p, i, s1, hi⟩⟩
end
/-- a tuple of the module -/
inductive RC : D → Value → Prop
  | int (i : Int) (t : Tok) : RC (.int i) (.int i t)
  | str (x : List Nat) (t : Tok) : RC (.str x) (.str (tS x) t)
inductive RCs : List D → List Value → Prop
  | nil : RCs [] []
  | cons {d : D} {u : Value} {l : List D} {us : List Value} : RC d u → RCs l us → RCs (d :: l) (u :: us)
theorem RCs.vals {G : Gx} : ∀ {l : List D} {us : List Value}, RCs l us → ∃ xs, Vals xs us ∧ ∀ M H, RVs G M H l xs
  | _, _, .nil => ⟨[], .nil, fun _ _ => .nil⟩
  | _, _, .cons h t => by
    obtain ⟨xs, h1, h2⟩ := RCs.vals (G := G) t
    cases h with
    | int i t => exact ⟨.int i :: xs, .cons ⟨t, rfl⟩ h1, fun M H => .cons (.int i) (h2 M H)⟩
    | str x t => exact ⟨.str (tS x) :: xs, .cons ⟨t, rfl⟩ h1, fun M H => .cons (.str x) (h2 M H)⟩
theorem gv_tup {t : Tb} {x : Str} {a : Addr} {l : List D} {od : Option Addr} {us : List Value} {n : Nat} {sl : Array (Option Value)} (h : t.G.mg x = some (.ref a)) (lk : t.G.K.lookup a = some ⟨.type "tuple", od, .seq us.toArray n, sl⟩) (hl : us.length ≤ 1000) (r : RCs l us) : GvL t x (.tup l) := by
  obtain ⟨xs, h1, h2⟩ := r.vals (G := t.G)
  exact ⟨_, .ref a, h, rfl, fun M H => .tup (.inr ⟨_, us.toArray, n, lk, rfl, rfl, by rw [sizeLine_eq]; simp; omega, by simpa using h1⟩) (h2 M H)⟩
def gx (K : PySem.W.Frag) (mg : Str → Option Value) : Gx := { K := K, mg := mg }
theorem gk_gx (K : PySem.W.Frag) (mg : Str → Option Value) : Gk (gx K mg) := ⟨fun _ _ _ _ h => h.elim, fun _ _ _ _ h => h.elim, fun _ _ _ _ h => h, fun _ _ _ _ h => h⟩
end Pf

set_option Elab.async false
set_option linter.all false
set_option maxRecDepth 100000
/-! ## Dicts: d | e -/
namespace Pf
open PySem L2
section
variable {prog : Program} {w : World} {K : Type} [DecidableEq K] {A : Around} {E : Value → Shared → Prop} {s : Shared}
theorem meets_dict_or (knd : KeyKind prog w K) (a b : Addr) (ha : (a == sysModules) = false) (hb : (b == sysModules) = false) :
    MeetsIn prog w (Builtin.«dict.__or__» ⟨[.ref a, .ref b], []⟩) (fun _ R s => ∃ kvs more, s.heap.DictOf knd a kvs ∧ s.heap.DictOf knd b more ∧ kvs.length + more.length ≤ sizeLine ∧
      ∀ h', h'.DictOf knd s.heap.objs.size (merged kvs more) → (∀ b o, s.heap.get? b = some o → h'.get? b = some o) → R (.ok (.ret (.ref s.heap.objs.size))) { s with heap := h' }) :=
  .of_wp fun A R s ⟨kvs, more, hm, hm2, hsz, h⟩ => by
    obtain ⟨o, es, ep, ho, hc, hdat, hk, hp, hn⟩ := id hm
    have hes : es.size ≤ sizeLine + 1 := by
      have e1 := hp.length
      have e2 : es.toList.length = es.size := by simp
      omega
    unfold Builtin.«dict.__or__»
    refine wpAny_bind ?_
    unfold Builtin.Dict.dictSlotArgs
    refine wpAny_bind (wpAny_notOrdered_dict hm.typeIs ?_)
    show wpAny _ _ (pure (Value.ref a, Value.ref b)) _ _ _
    refine wpAny_pure ?_
    refine wpAny_bind ?_
    refine wpAny_bind (wpAny_isInstance hm.typeIs isSubtype_dict_dict ?_)
    refine wpAny_isInstance hm2.typeIs isSubtype_dict_dict ?_
    simp only [Bool.not_true, Bool.false_eq_true, if_false]
    have hne : (s.heap.objs.size) ≠ b := by
      obtain ⟨_, _, _, hg, _⟩ := hm2
      exact fun e => absurd (Heap.lt_size hg) (by rw [e]; exact Nat.lt_irrefl _)
    refine wpAny_bind ?_
    have fin : ∀ es' : Array DictEntry, es' = es → wpAny (model prog w) A.in1 (do
          let __do_lift ← Builtin.Dict.addrOf (Value.ref s.heap.objs.size)
          holding [Value.ref s.heap.objs.size] (Builtin.Dict.updateFrom "dict.__or__" __do_lift (Value.ref b) [] (Value.ref s.heap.objs.size)))
        (fun fin s' => ∃ v, fin = .done (.ret v) ∧ R (.ok (.ret v)) s') (fun e s' => R (.error e) s') { s with heap := s.heap.push { cls := .type "dict", data := .dict es' } } := by
      rintro es' rfl
      have hnew : (s.heap.push { cls := .type "dict", data := .dict es' }).DictOf knd s.heap.objs.size kvs := ⟨_, es', 0, Heap.get?_push_size _ rfl, ⟨rfl, rfl, rfl⟩, rfl, hk, hp, hn⟩
      have ho' : (s.heap.push { cls := .type "dict", data := .dict es' }).DictOf knd b more := hm2.push _
      refine wpAny_bind (wpAny_pure ?_)
      refine wpAny_holding ?_
      unfold Builtin.Dict.updateFrom
      refine wpAny_bind (wpAny_typeOf ho'.typeIs ?_)
      rw [if_neg (by decide)]
      refine wpAny_bind ?_
      unfold Builtin.Dict.merge
      refine wpAny_bind ?_
      unfold Builtin.Dict.readDirectly
      refine wpAny_bind (wpAny_isInstance ho'.typeIs isSubtype_dict_dict ?_)
      simp only [Bool.not_true, Bool.false_eq_true, if_false]
      refine wpAny_bind (wpAny_specialOf ho'.typeIs F.slot_dict_iter.lookup (wpAny_pure ?_))
      simp only [beq_self_eq_true, if_true]
      refine wpAny_bind (wpAny_pure ?_)
      refine wpAny_mergeDict (hsz := hsz) hne hb hnew ho' fun h' hd' _ hs' => ?_
      show wpAny _ _ (Builtin.Dict.addKeywords s.heap.objs.size [] >>= _) _ _ _
      exact wpAny_bind (wpAny_pure (wpAny_pure ⟨_, rfl, h h' hd' fun c q e => (hs'.2 c (Nat.ne_of_lt (Heap.lt_size e))).trans (Heap.get?_push_of_some _ e)⟩))
    unfold Builtin.Dict.copyOf
    refine wpAny_bind (wpAny_pure ?_)
    unfold Builtin.Dict.showsAll
    rw [if_neg (by rw [ha]; exact Bool.false_ne_true)]
    refine wpAny_bind (wpAny_pure ?_)
    refine wpAny_bind (wpAny_dictEntries ho hdat ?_)
    by_cases hemp : es.isEmpty = true
    · rw [if_pos hemp]
      refine wpAny_bind (wpAny_rule (wpAny_newObj_type ?_))
      exact fin #[] (Array.isEmpty_iff.mp hemp).symm
    · rw [if_neg hemp]
      refine wpAny_bind ?_
      unfold Builtin.Dict.readDirectly
      refine wpAny_bind (wpAny_isInstance hm.typeIs isSubtype_dict_dict ?_)
      simp only [Bool.not_true, Bool.false_eq_true, if_false]
      refine wpAny_bind (wpAny_specialOf hm.typeIs F.slot_dict_iter.lookup (wpAny_pure ?_))
      simp only [beq_self_eq_true, if_true]
      refine wpAny_bind (wpAny_entriesForEmpty (knd := knd) ho hdat hk (wpAny_newObj_type ?_ hes))
      exact fin es rfl
end
def rDor : R2 := fun x y H Q => ∃ a b kvs more, x = .ref a ∧ y = .ref b ∧ Rd H a (.dK kvs) ∧ Rd H b (.dK more) ∧ kvs.length + more.length ≤ sizeLine ∧ ∀ p, H p = none → Q (.ref p) (upd H p (.dK (mergeK kvs more)))
theorem op_dor {X : Cx} : OpR X (binaryOp .BitOr) rDor := by
  intro pins s σ H x y v u Q I rx ry ⟨a, b, kvs, more, ex, ey, ha, hb, hl, q⟩
  subst ex ey
  cases rx; cases ry
  obtain ⟨z1, lo1, vs1, rel1, d1⟩ := dk_rd I.hok ha
  obtain ⟨z2, lo2, vs2, rel2, d2⟩ := dk_rd I.hok hb
  have el1 := rel1.length
  have el2 := rel2.length
  refine wpAny_binaryOp_same d1.typeIs d2.typeIs F.fills_dict_or F.slot_dict_or ?_
  refine call_meetsIn F.slot_dict_or d1.typeIs F.entry_dict_or (F.args_dict_or_2 _ _) (meets_dict_or (mixKind X.prog X.w) a b lo1 lo2) ⟨vs1, vs2, d1, d2, by omega, fun h' d' hk => ⟨(nomatch ·), ?_⟩⟩
  have hm : (s.heap.objs.size == sysModules) = false := beq_eq_false_iff_ne.mpr (Nat.ne_of_gt I.big)
  have z : (mergeK kvs more).length ≤ sizeLine := by
    have := (KV.merge rel2 rel1).length
    have := merged_length_le vs1 vs2
    omega
  exact ⟨.ref s.heap.objs.size, _, I.laid (t' := s.toks) (o := .dK (mergeK kvs more)) hk (Nat.le_refl _) (dk_new z hm (KV.merge rel2 rel1) d'), rfl, q _ (I.hok.fresh (Nat.le_refl _))⟩
end Pf

set_option Elab.async false
set_option linter.all false
set_option maxRecDepth 100000
/-! ## Dicts with whole numbers and texts as keys -/
namespace Pf
open PySem L2
def kEq : D → D → Bool
  | .int i, .int j => decide (i = j)
  | .str x, .str y => decide (x = y)
  | _, _ => false
def isK : D → Bool
  | .int _ => true
  | .str _ => true
  | _ => false
def dLook (l : List (D × D)) (k : D) : Option D := (l.find? fun p => kEq p.1 k).map (·.2)
def dPut (l : List (D × D)) (k d : D) : List (D × D) := if (l.any fun p => kEq p.1 k) = true then l.map (fun p => if kEq p.1 k = true then (p.1, d) else p) else l ++ [(k, d)]
def dMerge (l m : List (D × D)) : List (D × D) := m.foldl (fun acc p => dPut acc p.1 p.2) l
inductive RK : D → Key → Prop
  | int (i : Int) : RK (.int i) (.inl i)
  | str (x : List Nat) : RK (.str x) (.inr (tS x))
section
variable {G : Gx} {M : Mp} {H : Hp}
theorem RK.of {d : D} {v : V} (k : isK d = true) (r : RV G M H d v) : ∃ y, RK d y ∧ v = kV y := by
  cases d <;> simp only [isK, Bool.false_eq_true] at k
  · cases r; exact ⟨_, .int _, rfl⟩
  · cases r; exact ⟨_, .str _, rfl⟩
theorem RK.eq {a b : D} {x y : Key} (h : RK a x) (g : RK b y) : kEq a b = decide (x = y) := by
  cases h <;> cases g <;> simp [kEq]
  rename_i x y
  constructor
  · intro z; rw [z]
  · intro z; exact tS_inj z
theorem RKs.key {p : D × D} {l : List (D × D)} {q : Key × V} {ks : List (Key × V)} (h : RKs G M H (p :: l) (q :: ks)) : RK p.1 q.1 ∧ RV G M H p.2 q.2 ∧ RKs G M H l ks := by
  cases h with
  | int a b => exact ⟨.int _, a, b⟩
  | str a b => exact ⟨.str _, a, b⟩
theorem RKs.cons {k d : D} {y : Key} {v : V} {l : List (D × D)} {ks : List (Key × V)} (a : RK k y) (b : RV G M H d v) (c : RKs G M H l ks) : RKs G M H ((k, d) :: l) ((y, v) :: ks) := by
  cases a
  · exact .int b c
  · exact .str b c
theorem RKs.length : ∀ {l : List (D × D)} {ks : List (Key × V)}, RKs G M H l ks → l.length = ks.length
  | [], _, h => by cases h; rfl
  | p :: l, ks, h => by
    cases ks with
    | nil => cases h
    | cons q ks => simp [RKs.length h.key.2.2]
theorem RKs.val {k : D} {y : Key} (hk : RK k y) : ∀ {l : List (D × D)} {ks : List (Key × V)}, RKs G M H l ks → (dLook l k = none ∧ valV ks y = none) ∨ ∃ d v, dLook l k = some d ∧ valV ks y = some v ∧ RV G M H d v
  | [], ks, h => by cases h; exact .inl ⟨rfl, rfl⟩
  | p :: l, ks, h => by
    cases ks with
    | nil => cases h
    | cons q ks =>
      obtain ⟨a, b, c⟩ := h.key
      have e := a.eq hk
      unfold dLook valV
      rw [List.find?_cons, List.find?_cons, e]
      cases z : decide (q.1 = y) with
      | true => exact .inr ⟨p.2, q.2, rfl, rfl, b⟩
      | false => exact RKs.val hk c
theorem RKs.any {k : D} {y : Key} (hk : RK k y) : ∀ {l : List (D × D)} {ks : List (Key × V)}, RKs G M H l ks → (l.any fun p => kEq p.1 k) = ks.any fun kv => decide (kv.1 = y)
  | [], ks, h => by cases h; rfl
  | p :: l, ks, h => by
    cases ks with
    | nil => cases h
    | cons q ks =>
      obtain ⟨a, b, c⟩ := h.key
      rw [List.any_cons, List.any_cons, a.eq hk, RKs.any hk c]
theorem RKs.repl {k d : D} {y : Key} {v : V} (hk : RK k y) (r : RV G M H d v) : ∀ {l : List (D × D)} {ks : List (Key × V)}, RKs G M H l ks → RKs G M H (l.map fun p => if kEq p.1 k = true then (p.1, d) else p) (ks.map fun kv => if kv.1 = y then (kv.1, v) else kv)
  | [], ks, h => by cases h; exact .nil
  | p :: l, ks, h => by
    cases ks with
    | nil => cases h
    | cons q ks =>
      obtain ⟨a, b, c⟩ := h.key
      have e := a.eq hk
      have ih := RKs.repl hk r c
      simp only [List.map_cons]
      by_cases z : q.1 = y
      · rw [e, if_pos (by simpa using z), if_pos z]
        exact .cons a r ih
      · rw [e, if_neg (by simpa using z), if_neg z]
        exact .cons a b ih
theorem RKs.app : ∀ {l m : List (D × D)} {ks js : List (Key × V)}, RKs G M H l ks → RKs G M H m js → RKs G M H (l ++ m) (ks ++ js)
  | [], _, ks, _, h, g => by cases h; exact g
  | p :: l, _, ks, _, h, g => by
    cases ks with
    | nil => cases h
    | cons q ks =>
      obtain ⟨a, b, c⟩ := h.key
      exact .cons a b (RKs.app c g)
theorem RKs.put {k d : D} {y : Key} {v : V} (hk : RK k y) (r : RV G M H d v) {l : List (D × D)} {ks : List (Key × V)} (h : RKs G M H l ks) : RKs G M H (dPut l k d) (putK ks y v) := by
  unfold dPut putK
  rw [h.any hk]
  split
  · exact h.repl hk r
  · exact h.app (.cons hk r .nil)
theorem RKs.merge : ∀ {m : List (D × D)} {js : List (Key × V)} {l : List (D × D)} {ks : List (Key × V)}, RKs G M H m js → RKs G M H l ks → RKs G M H (dMerge l m) (mergeK ks js)
  | [], js, _, _, h, g => by cases h; exact g
  | p :: m, js, l, ks, h, g => by
    cases js with
    | nil => cases h
    | cons q js =>
      obtain ⟨a, b, c⟩ := h.key
      show RKs G M H (dMerge (dPut l p.1 p.2) m) (mergeK (putK ks q.1 q.2) js)
      exact RKs.merge c (g.put a b)
end
theorem kn_dct {G : Gx} {Wx : WX} {σ : St} {h : Hh} {M M1 : Mp} {H H1 : Hp} {Qv : VK} {l : List (D × D)} {ks : List (Key × V)} (gk : Gk G) (e1 : Ext M H M1 H1) (r1 : RL G h M1 H1) (rv : RKs G M1 H1 l ks) (k1 : KG (RN H G) G Wx σ M1 H1 Qv (.ok (.dct l) h)) (p : Addr) (hp : H1 p = none) : Qv (.ref p) (upd H1 p (.dK ks)) :=
  k1 _ M1 _ (Ext.loose hp) (r1.poke gk (r1.free hp) (r1.freeF hp) (nt_none hp)) ⟨p, rfl, .dct upd_same (rv.keep gk (Keep.new hp)), r1.free hp, r1.freeF hp, e1.trk _ hp⟩
/-- {} -/
def Xn.dnil : Xn where
  sem r h := .ok (.dct []) h
  ok ck a := match a with
    | .Dict [] [] _ => true
    | _ => false
  need _ := True
  star _ a h := by cases a <;> first | rfl | (simp at h)
  snd {X G ck k Wx a} C h n := by
    split at h
    · exact PE.imp pe_dnewK fun σ H Qv ⟨r, h, M, rl, re, k⟩ p hp => kn_dct C.gk Ext.refl rl .nil k p hp
    · cases h
/-- d | e -/
def Xn.dor (x y : Xo) : Xn where
  sem r h := (x.sem r h).bind fun d h1 => (y.sem r h1).bind fun e h2 => match vw h2 d, vw h2 e with
    | some (.dct l), some (.dct m) => if l.length + m.length ≤ line then .ok (.dct (dMerge l m)) h2 else .no
    | _, _ => .no
  ok ck a := match a with
    | .BinOp u .BitOr v _ => x.ok ck u && y.ok ck v
    | _ => false
  need t := x.need t ∧ y.need t
  star _ a h := by cases a <;> first | rfl | (simp at h)
  snd {X G ck k Wx a} C h n := by
    split at h
    · simp only [Bool.and_eq_true] at h
      refine PE.imp (pe_op op_dor (x.snd C h.1 n.1) (y.snd C h.2 n.2)) fun σ H Qv ⟨r, h, M, rl, re, k⟩ => ⟨r, h, M, rl, re, one k fun d v h1 M1 H1 e1 r1 b1 k1 =>
        ⟨r, h1, M1, r1, re.ext C.gk rl e1, one k1 fun e u h2 M2 H2 e2 r2 b2 k2 => ?_⟩⟩
      try dsimp only at k2
      split at k2
      · rename_i l m q1 q2
        split at k2
        · rename_i hk
          obtain ⟨p1, vs1, rfl, h1, rv1⟩ := (vw_ok r2 (b1.ext C.gk r1 e2) q1).dct
          obtain ⟨p2, vs2, rfl, h2, rv2⟩ := (vw_ok r2 b2 q2).dct
          exact ⟨_, _, _, _, rfl, rfl, h1, h2, by rw [← rv1.length, ← rv2.length, ← line_eq]; exact hk, fun p hp => kn_dct C.gk (e1.trans e2) r2 (rv2.merge rv1) k2 p hp⟩
        · exact k2.elim
      · exact k2.elim
    · cases h
def dgetE (d k : D) : Option D := match d with
  | .dct l => if isK k then dLook l k else none
  | _ => none
theorem room1 {k : Nat} {A : Around} (r : Room k A) : A.units + 1 < cLine := by have := r.un; omega
theorem noSl_of {b : Expr} (h : notSlice b = true) : NoSl b := by
  intro ov iv
  cases b <;> first | rfl | (simp [notSlice] at h)
/-- d[k], there -/
def Xp.dget (x : Xo) (y : Xp) : Xp where
  sem r h := (x.sem r h).bind fun d h1 => (y.sem r h1).bind fun e h2 => ofO (on1 (dgetE · e) h2 d) h2
  ok ck a := match a with
    | .Subscript u v _ => x.ok ck u && y.ok ck v && notSlice v
    | _ => false
  need t := x.need t ∧ y.need t
  star _ a h := by cases a <;> first | rfl | (simp at h)
  snd {X G ck k Wx a} C h n := by
    split at h
    · simp only [Bool.and_eq_true] at h
      refine PE.imp (pe_dget (room1 C.room) (x.snd C h.1.1 n.1) (y.snd C h.1.2 n.2) (noSl_of h.2)) fun σ H Qv ⟨r, h, M, rl, re, k⟩ => ⟨r, h, M, rl, re, one k fun d v h1 M1 H1 e1 r1 b1 k1 =>
        ⟨r, h1, M1, r1, re.ext C.gk rl e1, one k1 fun e u h2 M2 H2 e2 r2 b2 k2 => ?_⟩⟩
      try dsimp only at k2
      unfold on1 at k2
      cases q : vw h2 d with
      | none => rw [q] at k2; exact k2.elim
      | some z =>
        rw [q] at k2
        simp only [Option.bind_some] at k2
        unfold dgetE at k2
        split at k2
        · split at k2
          · rename_i l hk
            obtain ⟨p1, ks, rfl, h1, rv1⟩ := (vw_ok r2 (b1.ext C.gk r1 e2) q).dct
            obtain ⟨yk, rk, rfl⟩ := RK.of hk b2
            rcases rv1.val rk with ⟨w, _⟩ | ⟨dd, vv, w, w2, rr⟩
            · rw [w] at k2; exact k2.elim
            · rw [w] at k2
              exact ⟨p1, vv, rfl, .inl ⟨ks, yk, h1, rfl, w2.symm⟩, k2.here r2 rr⟩
          · exact k2.elim
        · exact k2.elim
    · cases h
def dinE (d k : D) : Option Bool := match d with
  | .dct l => if isK k then some (dLook l k).isSome else none
  | _ => none
/-- k in d -/
def Xt.din (x : Xp) (y : Xo) : Xt where
  sem r h := (x.sem r h).bind fun d h1 => (y.sem r h1).bind fun e h2 => ofO (on1 (dinE · d) h2 e) h2
  ok := cmpB .In x.ok y.ok
  need t := x.need t ∧ y.need t
  snd {X G ck k Wx a} C h n := by
    obtain ⟨u, v, p, rfl, h1, h2, h3⟩ := cmpB_some h
    refine PT.imp (pt_cmp (pc_din (room1 C.room) (x.snd C h1 n.1) (y.snd C h2 n.2)) (nomarkS h3)) fun σ H Qv ⟨r, h, M, rl, re, k⟩ => ⟨r, h, M, rl, re, one k fun d v h1 M1 H1 e1 r1 b1 k1 =>
        ⟨r, h1, M1, r1, re.ext C.gk rl e1, one k1 fun e u h2 M2 H2 e2 r2 b2 k2 => ?_⟩⟩
    try dsimp only at k2
    unfold on1 at k2
    cases q : vw h2 e with
    | none => rw [q] at k2; exact k2.elim
    | some z =>
      rw [q] at k2
      simp only [Option.bind_some] at k2
      unfold dinE at k2
      split at k2
      · split at k2
        · rename_i l hk
          obtain ⟨p1, ks, rfl, h1, rv1⟩ := (vw_ok r2 b2 q).dct
          obtain ⟨yk, rk, rfl⟩ := RK.of hk (b1.ext C.gk r1 e2)
          have ev : (dLook l d).isSome = (valV ks yk).isSome := by
            rcases rv1.val rk with ⟨w, w2⟩ | ⟨dd, vv, w, w2, rr⟩ <;> rw [w, w2] <;> rfl
          exact ⟨p1, _, rfl, .inl ⟨ks, yk, h1, rfl, rfl⟩, _, rfl, k2.here r2 ev⟩
        · exact k2.elim
      · exact k2.elim
def Xt.dnin (x : Xp) (y : Xo) : Xt where
  sem r h := (x.sem r h).bind fun d h1 => (y.sem r h1).bind fun e h2 => ofO (on1 (fun z => (dinE z d).map (!·)) h2 e) h2
  ok := cmpB .NotIn x.ok y.ok
  need t := x.need t ∧ y.need t
  snd {X G ck k Wx a} C h n := by
    obtain ⟨u, v, p, rfl, h1, h2, h3⟩ := cmpB_some h
    refine PT.imp (pt_cmp (pc_dnotin (room1 C.room) (x.snd C h1 n.1) (y.snd C h2 n.2)) (nomarkS h3)) fun σ H Qv ⟨r, h, M, rl, re, k⟩ => ⟨r, h, M, rl, re, one k fun d v h1 M1 H1 e1 r1 b1 k1 =>
        ⟨r, h1, M1, r1, re.ext C.gk rl e1, one k1 fun e u h2 M2 H2 e2 r2 b2 k2 => ?_⟩⟩
    try dsimp only at k2
    unfold on1 at k2
    cases q : vw h2 e with
    | none => rw [q] at k2; exact k2.elim
    | some z =>
      rw [q] at k2
      simp only [Option.bind_some] at k2
      unfold dinE at k2
      split at k2
      · split at k2
        · rename_i l hk
          obtain ⟨p1, ks, rfl, h1, rv1⟩ := (vw_ok r2 b2 q).dct
          obtain ⟨yk, rk, rfl⟩ := RK.of hk (b1.ext C.gk r1 e2)
          have ev : (!(dLook l d).isSome) = (!(valV ks yk).isSome) := by
            rcases rv1.val rk with ⟨w, w2⟩ | ⟨dd, vv, w, w2, rr⟩ <;> rw [w, w2] <;> rfl
          exact ⟨p1, _, rfl, .inl ⟨ks, yk, h1, rfl, rfl⟩, _, rfl, k2.here r2 ev⟩
        · exact k2.elim
      · exact k2.elim
/-- d[k] = e, d a name that owns its dict -/
def Sm.dput (j : Nat) (i e : Xp) : Sm where
  sem r h := (e.sem r h).st r fun d h1 => match r[j]? with
    | some (.ow (.dct l)) => (i.sem r h1).st r fun k h2 => if isK k && decide (l.length < line) then .nx (r.set j (.ow (.dct (dPut l k d)))) h2 else .no
    | _ => .no
  ok := setB (varB j) i.ok e.ok
  need t := i.need t ∧ e.need t
  snd {X G ck k Wx st} C hk h n := by
    obtain ⟨a, b, p, v, q, rfl, h1, h2, h3, h4, h5⟩ := setB_some h
    refine PS.imp (ps_dput (room1 C.room) (pe_varB C h1) (i.snd C h2 n.1) (e.snd C h3 n.2) (by cases v <;> first | rfl | (simp [notComp] at h4))) fun Dn σ H ⟨M0, H0, r, hh, M, s, k⟩ => ⟨r, hh, M, s.rl, s.re, oneS C.gk s k fun d v h1 M1 H1 e1 s1 rd k1 => ?_⟩
    try dsimp only at k1
    split at k1
    · rename_i l q
      obtain ⟨a, ha, _⟩ := s1.re.ow j _ q
      refine ⟨_, ha, r, h1, M1, s1.rl, s1.re, oneS C.gk s1 k1 fun kk w h2 M2 H2 e2 s2 rk k2 => ?_⟩
      try dsimp only at k2
      split at k2
      · rename_i hk
        simp only [Bool.and_eq_true, decide_eq_true_eq] at hk
        obtain ⟨yk, rk2, rfl⟩ := RK.of hk.1 rk
        obtain ⟨b, hb, ro, na, nf⟩ := s2.re.ow j _ q
        rw [ha] at hb; cases hb
        cases ro with
        | dct h6 rv =>
          refine ⟨_, _, rfl, DPut.k h6 (by rw [← rv.length, ← line_eq]; exact hk.2), ?_⟩
          obtain ⟨kp, s3⟩ := s2.write C.gk (o := .dK _) q ha (.dct upd_same ((rv.put rk2 (rd.ext C.gk s1.rl e2)).keep C.gk (Keep.poke nf)))
          exact k2 σ M2 _ kp s3
      · exact k2.elim
    · exact k1.elim
/-- x.items(), x a dict that is written no more -/
def pairsD (l : List (D × D)) : List D := l.map fun p => .tup [p.1, p.2]
theorem RKs.get {G : Gx} {M : Mp} {H : Hp} : ∀ {l : List (D × D)} {ks : List (Key × V)} {i : Nat} {q : Key × V}, RKs G M H l ks → ks[i]? = some q → ∃ p, l[i]? = some p ∧ RK p.1 q.1 ∧ RV G M H p.2 q.2
  | [], ks, i, q, h, e => by cases h; simp at e
  | p :: l, ks, i, q, h, e => by
    cases ks with
    | nil => cases h
    | cons q' ks =>
      obtain ⟨a, b, c⟩ := h.key
      cases i with
      | zero => simp at e; subst e; exact ⟨p, rfl, a, b⟩
      | succ i => simpa using RKs.get c (by simpa using e)
theorem RK.rv {G : Gx} {M : Mp} {H : Hp} {k : D} {y : Key} (h : RK k y) : RV G M H k (kV y) := by
  cases h
  · exact .int _
  · exact .str _
theorem it_items {G : Gx} {M : Mp} {H : Hp} (gk : Gk G) {a : Addr} {o : Obj} {l : List (D × D)} {ks : List (Key × V)} (hF : M.F a) (hq : H a = some (.frz o (.dK ks))) (r : RKs G M H l ks) : ItOk G M H (pairsD l) (Iti a o ks) := by
  intro h2 M2 H2 e r2
  have q2 := (e.k a hF).2 _ hq
  have rk := r.keep gk e
  have hl := r.length
  refine ⟨fun i hi => ⟨⟨q2, by simpa [pairsD, hl] using hi⟩, fun x H3 ⟨T, k, v, e1, e2, e3, e4⟩ => ?_⟩, fun i hi => ⟨q2, by simp [pairsD] at hi; omega⟩⟩
  subst e2 e4
  obtain ⟨p, w1, w2, w3⟩ := rk.get e1
  refine ⟨.tup [p.1, p.2], M2.fr T, by simp [pairsD, w1], Ext.newF' e3, r2.newF gk e3 trivial, .tup (.inl ⟨.inr rfl, upd_same⟩) (.cons w2.rv (.cons (w3.keep gk (Keep.newF e3)) .nil))⟩
def itemsB (x : Ck → Expr → Bool) (ck : Ck) (a : Expr) : Bool := match a with
  | .Call (.Attribute e m apos) [] [] cpos => m == ("items" : Str) && x ck e && (apos.endLine == cpos.line) && (match e with
    | .Attribute (.Name _ _) f _ => true
    | .Name _ _ => true
    | _ => false)
  | _ => false
theorem itemsB_some {x : Ck → Expr → Bool} {ck : Ck} {a : Expr} (h : itemsB x ck a = true) : ∃ e apos cpos, a = .Call (.Attribute e "items" apos) [] [] cpos ∧ x ck e = true ∧ (apos.endLine == cpos.line) = true ∧ ∀ env, attributeBase e "items" env (eval e env) = eval e env := by
  unfold itemsB at h
  split at h
  · simp only [Bool.and_eq_true, beq_iff_eq] at h
    obtain ⟨⟨⟨rfl, h1⟩, h2⟩, h3⟩ := h
    refine ⟨_, _, _, rfl, h1, by simpa using h2, fun env => ?_⟩
    split at h3
    · rfl
    · rfl
    · cases h3
  · cases h
def Ib.items (x : Xp) : Ib where
  sem r h := (x.sem r h).bind fun d h1 => match d with
    | .dct l => .ok (pairsD l) h1
    | _ => .no
  ok := itemsB x.ok
  need := x.need
  tgt := isTupE
  set _ a h := by obtain ⟨_, _, _, rfl, _⟩ := itemsB_some h; rfl
  snd {X G ck k Wx tg a} C ht h n := by
    cases tg <;> simp only [isTupE, Bool.false_eq_true] at ht
    obtain ⟨e, apos, cpos, rfl, h1, h2, h3⟩ := itemsB_some h
    refine PI.imp (pi_items (x.snd C h1 n) (h3 _) h2) fun σ H R ⟨r, hh, M, rl, re, k⟩ => ⟨r, hh, M, rl, re, oneI k fun d v h1 M1 H1 e1 r1 b1 k1 => ?_⟩
    try dsimp only at k1
    split at k1
    · cases b1 with
      | dct hF hq rr => exact ⟨_, _, _, rfl, hq, k1 _ M1 H1 Ext.refl r1 (it_items C.gk hF hq rr)⟩
    · exact k1.elim
/-- {k: v} -/
def Xn.disp1 (x y : Xp) : Xn where
  sem r h := (x.sem r h).bind fun d h1 => (y.sem r h1).bind fun e h2 => if isK d then .ok (.dct [(d, e)]) h2 else .no
  ok ck a := match a with
    | .Dict [some u] [v] _ => x.ok ck u && y.ok ck v
    | _ => false
  need t := x.need t ∧ y.need t
  star _ a h := by cases a <;> first | rfl | (simp at h)
  snd {X G ck k Wx a} C h n := by
    split at h
    · simp only [Bool.and_eq_true] at h
      refine PE.imp (pe_disp (pps_cons (x.snd C h.1 n.1) (y.snd C h.2 n.2) pps_nil) (by rfl) (by rfl) (fun z => by cases z) (by simp)) fun σ H Qv ⟨r, hh, M, rl, re, k⟩ p hp => ?_
      have rl0 := rl.poke C.gk (o := .dK []) (rl.free hp) (rl.freeF hp) (nt_none hp)
      have x0 : Ext M H M (upd H p (.dK [])) := Ext.loose hp
      have re0 := re.ext C.gk rl x0
      have lo : ∀ {M1 : Mp} {H1 : Hp}, Ext M (upd H p (.dK [])) M1 H1 → H1 p = some (.dK []) ∧ p ∉ M1.bs ∧ ¬ M1.F p := fun {M1 H1} e => ⟨e.keep _ _ upd_same (rl.free hp) trivial, e.off upd_same (rl.free hp), e.offF rl0 upd_same trivial (rl.free hp) (rl.freeF hp)⟩
      refine ⟨r, hh, M, rl0, re0, ?_⟩
      dsimp only at k
      cases q1 : x.sem r hh with
      | no => rw [q1] at k; exact k.elim
      | exc c fs h' => rw [q1] at k; exact fun cls dx M' H' e => k cls dx M' H' (x0.trans e)
      | ok d h1 =>
        rw [q1] at k
        simp only [bind_ok] at k
        intro v M1 H1 e1 r1 b1
        refine ⟨r, h1, M1, r1, re0.ext C.gk rl0 e1, ?_⟩
        cases q2 : y.sem r h1 with
        | no => rw [q2] at k; exact k.elim
        | exc c fs h' => rw [q2] at k; exact fun cls dx M' H' e => k cls dx M' H' (x0.trans (e1.trans e))
        | ok e h2 =>
          rw [q2] at k
          simp only [bind_ok] at k
          split at k
          · rename_i hk
            intro u M2 H2 e2 r2 b2
            obtain ⟨l1, l2, l3⟩ := lo (e1.trans e2)
            obtain ⟨yk, rk, rfl⟩ := RK.of hk b1
            refine ⟨l1, [(yk, u)], rfl, by simp, ?_⟩
            have ee : mergeK [] [(yk, u)] = [(yk, u)] := rfl
            rw [ee]
            exact k _ M2 _ (((x0.trans (e1.trans e2))).up hp) (r2.poke C.gk l2 l3 (nt_some l1 trivial)) ⟨p, rfl, .dct upd_same (.cons rk (b2.keep C.gk (Keep.poke l3)) .nil), l2, l3, hp⟩
          · exact k.elim
    · cases h
end Pf

set_option Elab.async false
set_option linter.all false
set_option maxRecDepth 100000
/-! ## Dict comprehensions, sorted(d) -/
namespace Pf
open PySem L2
def dcGo (t : Tg) (b : Rho → Hh → Res Bool) (ke e : Rho → Hh → Res D) (r : Rho) : List D → List (D × D) → Hh → Res (List (D × D))
  | [], acc, h => .ok acc h
  | x :: xs, acc, h => match t.put x r with
    | none => .no
    | some r2 => (noX (b r2 h)).bind fun c h1 => if c then (noX (ke r2 h1)).bind fun k h2 => (noX (e r2 h2)).bind fun d h3 => if isK k then dcGo t b ke e r xs (dPut acc k d) h3 else .no else dcGo t b ke e r xs acc h1
def dcSem (ke e : Xp) (t : Tg) (it : Ib) (ifs : Option Xt) (own : List (Str × Nat)) (r : Rho) (h : Hh) : Res D := (it.sem r h).bind fun xs h1 => if xs.length ≤ line then (dcGo t (semT ifs) ke.sem e.sem (wipeR r (own.map (·.2))) xs [] h1).bind fun l h2 => .ok (.dct l) h2 else .no
theorem dPut_len (l : List (D × D)) (k d : D) : (dPut l k d).length ≤ l.length + 1 := by
  unfold dPut
  split <;> simp
def dcB (ke e : Xp) (t : Tg) (it : Ib) (ifs : Option Xt) (own : List (Str × Nat)) (ck : Ck) (a : Expr) : Bool := match a with
  | .DictComp y x [⟨tg, iter, cs, 0⟩] scope _ => blkC ck.N ck.sc scope own && (Tg.sl t).all (fun i => decide (i ∈ own.map (·.2))) && it.ok ck iter && Tg.ok ⟨ck.N, relS scope ck.sc, true⟩ t tg && okT ifs ⟨ck.N, relS scope ck.sc, true⟩ cs && e.ok ⟨ck.N, relS scope ck.sc, true⟩ x && ke.ok ⟨ck.N, relS scope ck.sc, true⟩ y && it.tgt tg
  | _ => false
theorem dcB_some {ke e : Xp} {t : Tg} {it : Ib} {ifs : Option Xt} {own : List (Str × Nat)} {ck : Ck} {a : Expr} (h : dcB ke e t it ifs own ck a = true) : ∃ y x tg iter cs scope p, a = .DictComp y x [⟨tg, iter, cs, 0⟩] scope p ∧ blkC ck.N ck.sc scope own = true ∧ (Tg.sl t).all (fun i => decide (i ∈ own.map (·.2))) = true ∧ it.ok ck iter = true ∧ Tg.ok ⟨ck.N, relS scope ck.sc, true⟩ t tg = true ∧ okT ifs ⟨ck.N, relS scope ck.sc, true⟩ cs = true ∧ e.ok ⟨ck.N, relS scope ck.sc, true⟩ x = true ∧ ke.ok ⟨ck.N, relS scope ck.sc, true⟩ y = true ∧ it.tgt tg = true := by
  unfold dcB at h
  split at h
  · simp only [Bool.and_eq_true] at h
    obtain ⟨⟨⟨⟨⟨⟨⟨h1, h2⟩, h3⟩, h4⟩, h5⟩, h6⟩, h8⟩, h7⟩ := h
    exact ⟨_, _, _, _, _, _, _, rfl, h1, h2, h3, h4, h5, h6, h8, h7⟩
  · cases h
theorem dc_read {X : Cx} {G : Gx} {ck : Ck} {k : Nat} {Wx : WX} (C : Cok X G ck k Wx) {ke e : Xp} {t : Tg} {it : Ib} {ifs : Option Xt} {own : List (Str × Nat)} (h2 : (Tg.sl t).all (fun i => decide (i ∈ own.map (·.2))) = true) : ∀ σ H Qv, tN G Wx (dcSem ke e t it ifs own) σ H Qv → tDc (tI G Wx it.sem) (gT G t) (tG (fun _ _ (b c : Bool) => b = c) G W0 (semT ifs)) (tG (RV G) G W0 ke.sem) (tG (RV G) G W0 e.sem) (own.map (·.2)) σ H Qv := by
  intro σ H Qv ⟨r, hh, M, rl, re, k⟩
  refine ⟨r, hh, M, rl, re, ?_⟩
  unfold dcSem at k
  cases q0 : it.sem r hh with
  | no => rw [q0] at k; exact k
  | exc c fs h' => rw [q0] at k; exact k
  | ok xs hx =>
    rw [q0] at k
    simp only [bind_ok] at k
    split at k
    · rename_i hl
      intro J M1 H1 e1 r1 ok Dd hD
      have k := k.back e1
      refine ⟨fun i m H' => m = xs.length - i ∧ i ≤ xs.length ∧ ∃ acc avs h' M', acc.length ≤ i ∧ Ext M1 H1 M' H' ∧ RL G h' M' H' ∧ H' Dd = some (.dK avs) ∧ Dd ∉ M'.bs ∧ ¬ M'.F Dd ∧ RKs G M' H' acc avs ∧
          KG (RN H G) G Wx σ M1 H1 Qv ((dcGo t (semT ifs) ke.sem e.sem (wipeR r (own.map (·.2))) (xs.drop i) acc h').bind fun ds h2 => .ok (.dct ds) h2),
        ⟨xs.length, by simp, Nat.zero_le _, [], [], hx, M1, by simp, Ext.loose hD, r1.poke C.gk (r1.free hD) (r1.freeF hD) (nt_none hD), upd_same, r1.free hD, r1.freeF hD, .nil, k⟩, ?_⟩
      rintro i m H' ⟨rfl, hi', acc, avs, h', M', ha, e2, r2, at2, n2, f2, ra, k2⟩
      have ok2 := ok h' M' H' (e2.kp r1) r2
      by_cases hlt : i < xs.length
      · refine .inr ⟨(ok2.1 i hlt).1, fun H4 => ∃ acc avs h4 M4, acc.length ≤ i + 1 ∧ Ext M1 H1 M4 H4 ∧ RL G h4 M4 H4 ∧ H4 Dd = some (.dK avs) ∧ Dd ∉ M4.bs ∧ ¬ M4.F Dd ∧ RKs G M4 H4 acc avs ∧
          KG (RN H G) G Wx σ M1 H1 Qv ((dcGo t (semT ifs) ke.sem e.sem (wipeR r (own.map (·.2))) (xs.drop (i + 1)) acc h4).bind fun ds h2 => .ok (.dct ds) h2), fun H4 q => ⟨xs.length - (i + 1), by omega, rfl, by omega, q⟩, fun y H3 hy => ?_⟩
        obtain ⟨d, M3, ed, e3, r3, rv3⟩ := (ok2.1 i hlt).2 y H3 hy
        have re3 := (((re.ext C.gk rl e1).ext C.gk r1 e2).ext C.gk r2 e3).wipe (own.map (·.2))
        have hdrop : xs.drop i = d :: xs.drop (i + 1) := by
          rw [List.drop_eq_getElem_cons hlt]
          rw [List.getElem?_eq_getElem hlt] at ed
          cases ed; rfl
        rw [hdrop, dcGo] at k2
        split at k2
        · exact k2.elim
        · rename_i r4 ep
          have lo : ∀ {M4 : Mp} {H4 : Hp}, Ext M' H' M4 H4 → H4 Dd = some (.dK avs) ∧ Dd ∉ M4.bs ∧ ¬ M4.F Dd := fun {M4 H4} e4 => ⟨e4.keep _ _ at2 n2 trivial, e4.off at2 n2, e4.offF r2 at2 trivial n2 f2⟩
          refine ⟨d, _, h', M3, r4, r3, re3, rv3, ep, fun σ' re' si => ⟨wipe_same si fun j hj => by simpa using List.all_eq_true.mp h2 j hj, ?_⟩⟩
          cases q1 : semT ifs r4 h' with
          | no => rw [q1] at k2; exact k2.elim
          | exc c fs hq => rw [q1] at k2; exact k2.elim
          | ok c h5 =>
            rw [q1] at k2
            simp only [noX_ok, bind_ok] at k2
            refine ⟨r4, h', M3, r3, re', ?_⟩
            rw [q1]
            rintro _ M4 H4 e4 rl4 rfl
            cases c with
            | false =>
              simp only [Bool.false_eq_true, if_false] at k2 ⊢
              obtain ⟨l1, l2, l3⟩ := lo (e3.trans e4)
              exact ⟨acc, avs, h5, M4, by omega, (e2.trans e3).trans e4, rl4, l1, l2, l3, (ra.keep C.gk (e3.kp r2)).keep C.gk (e4.kp r3), k2⟩
            | true =>
              simp only [if_true] at k2 ⊢
              cases q2 : ke.sem r4 h5 with
              | no => rw [q2] at k2; exact k2.elim
              | exc c fs hq => rw [q2] at k2; exact k2.elim
              | ok dk h6 =>
                rw [q2] at k2
                simp only [noX_ok, bind_ok] at k2
                refine ⟨r4, h5, M4, rl4, re'.ext C.gk r3 e4, ?_⟩
                rw [q2]
                intro zk M6 H6 e6 r6 rk
                cases q3 : e.sem r4 h6 with
                | no => rw [q3] at k2; exact k2.elim
                | exc c fs hq => rw [q3] at k2; exact k2.elim
                | ok dz h7 =>
                  rw [q3] at k2
                  simp only [noX_ok, bind_ok] at k2
                  split at k2
                  · rename_i hk
                    refine ⟨r4, h6, M6, r6, (re'.ext C.gk r3 e4).ext C.gk rl4 e6, ?_⟩
                    rw [q3]
                    intro z M7 H7 e7 r7 rz
                    obtain ⟨yk, rk2, rfl⟩ := RK.of hk rk
                    obtain ⟨l1, l2, l3⟩ := lo (((e3.trans e4).trans e6).trans e7)
                    have ra7 := (((ra.keep C.gk (e3.kp r2)).keep C.gk (e4.kp r3)).keep C.gk (e6.kp rl4)).keep C.gk (e7.kp r6)
                    have hz : avs.length < sizeLine := by
                      rw [← ra7.length, ← line_eq]
                      omega
                    exact ⟨avs, yk, rfl, l1, hz, dPut acc dk dz, putK avs yk z, h7, M7, by have := dPut_len acc dk dz; omega, kn_up (h := h7) C.gk ((((e2.trans e3).trans e4).trans e6).trans e7) hD, r7.poke C.gk l2 l3 (nt_some l1 trivial), upd_same, l2, l3, (ra7.put rk2 rz).keep C.gk (Keep.poke l3), k2⟩
                  · exact k2.elim
      · have ei : xs.drop i = [] := List.drop_eq_nil_iff.mpr (by omega)
        rw [ei, dcGo] at k2
        simp only [bind_ok, List.append_nil] at k2
        exact .inl ⟨ok2.2 i (by omega), k2 _ M' H' e2 r2 ⟨Dd, rfl, .dct at2 ra, n2, f2, e1.trk _ hD⟩⟩
    · exact k.elim
/-- {k: e for t in it if b} -/
def Xn.dc (ke e : Xp) (t : Tg) (it : Ib) (ifs : Option Xt) (own : List (Str × Nat)) : Xn where
  sem := dcSem ke e t it ifs own
  ok := dcB ke e t it ifs own
  need b := (e.need b ∧ it.need b ∧ needT ifs b) ∧ ke.need b
  star _ a h := by obtain ⟨_, _, _, _, _, _, _, rfl, _⟩ := dcB_some h; rfl
  snd {X G ck k Wx a} C h n := by
    obtain ⟨y, x, tg, iter, cs, scope, p, rfl, h1, h2, h3, h4, h5, h6, h8, h7⟩ := dcB_some h
    exact PE.imp (pe_dc C.calm C.nd (it.snd C h7 h3 n.1.2.1) (blkOk_by (by rw [C.hN, C.hsc]; exact h1))
      (fun s H Cc cl fp => sg_T (C.blk (s := s) (H := H) (scope := scope) (Cc := Cc) (cl := cl) (fp := fp)) t h4)
      (fun s H Cc cl fp => sndT ifs (C.blk (s := s) (H := H) (scope := scope) (Cc := Cc) (cl := cl) (fp := fp)) h5 n.1.2.2)
      (fun s H Cc cl fp => ke.snd (C.blk (s := s) (H := H) (scope := scope) (Cc := Cc) (cl := cl) (fp := fp)) h8 n.2)
      (fun s H Cc cl fp => e.snd (C.blk (s := s) (H := H) (scope := scope) (Cc := Cc) (cl := cl) (fp := fp)) h6 n.1.1) (by
        have h4 := it.set _ _ h3
        intro v
        cases iter <;> first | rfl | (simp [notSet] at h4))) (dc_read C h2)
/-! ### sorted(d), keys whole numbers -/
def intsOf : List (D × D) → Option (List Int)
  | [] => some []
  | (.int i, _) :: l => (intsOf l).map (i :: ·)
  | _ :: _ => none
def srtI (ns : List Int) : List Int := ns.mergeSort fun x y => decide (x ≤ y)
theorem RKs.ints {G : Gx} {M : Mp} {H : Hp} : ∀ {l : List (D × D)} {ks : List (Key × V)} {ns : List Int}, RKs G M H l ks → intsOf l = some ns → ks.map (·.1) = ns.map Sum.inl
  | [], ks, ns, h, e => by cases h; cases e; rfl
  | p :: l, ks, ns, h, e => by
    cases ks with
    | nil => cases h
    | cons q ks =>
      obtain ⟨a, b, c⟩ := h.key
      obtain ⟨p1, p2⟩ := p
      cases p1 <;> simp only [intsOf, reduceCtorEq] at e
      cases z : intsOf l with
      | none => rw [z] at e; cases e
      | some m =>
        rw [z] at e; cases e
        have ih := RKs.ints c z
        obtain ⟨q1, q2⟩ := q
        cases a
        simp only [List.map_cons, ih]
theorem intsOf_len : ∀ {l : List (D × D)} {ns : List Int}, intsOf l = some ns → ns.length = l.length
  | [], ns, e => by cases e; rfl
  | p :: l, ns, e => by
    obtain ⟨p1, p2⟩ := p
    cases p1 <;> simp only [intsOf, reduceCtorEq] at e
    cases z : intsOf l with
    | none => rw [z] at e; cases e
    | some m => rw [z] at e; cases e; simp [intsOf_len z]
def sortDE (d : D) : Option (List Int) := match d with
  | .dct l => (intsOf l).bind fun ns => if ns.length < 64 then some (srtI ns) else none
  | _ => none
def Xn.sortD (x : Xo) : Xn where
  sem r h := (x.sem r h).bind fun d h1 => match on1 sortDE h1 d with
    | some ns => .ok (.lst (ns.map D.int)) h1
    | none => .no
  ok ck a := match a with
    | .Call (.Name f _) [y] [] _ => f == ("sorted" : Str) && globB ck f && x.ok ck y
    | _ => false
  need t := BtL t "sorted" ∧ x.need t
  star _ a h := by cases a <;> first | rfl | (simp at h)
  snd {X G ck k Wx a} C h n := by
    split at h
    · simp only [Bool.and_eq_true, beq_iff_eq] at h
      obtain ⟨⟨rfl, hg⟩, h2⟩ := h
      obtain ⟨g1, g2, g3⟩ := gl_of C hg
      have hs := x.star _ _ h2
      refine PE.imp (pe_callB (call_sortedDI C.calm) g1 (by rw [← C.hmg]; exact n.1) bt_sorted (pa_cons (x.snd C h2 n.2) pa_nil (star_cons hs _)) g3 g2 (star_cons hs _) rfl) fun σ H Qv ⟨r, hh, M, rl, re, k⟩ => ⟨r, hh, M, rl, re, one k fun d v h1 M1 H1 e1 r1 b1 k1 => ?_⟩
      try dsimp only at k1
      split at k1
      · rename_i ns q
        unfold on1 at q
        obtain ⟨z, q1, q2⟩ := Option.bind_eq_some_iff.mp q
        unfold sortDE at q2
        split at q2
        · rename_i l
          obtain ⟨ms, q3, q4⟩ := Option.bind_eq_some_iff.mp q2
          split at q4
          · rename_i hl
            cases q4
            obtain ⟨p1, ks, rfl, hd, rk⟩ := (vw_ok r1 b1 q1).dct
            refine ⟨p1, ks, ms, rfl, hd, rk.ints q3, hl, fun ys p pm pw hp => ?_⟩
            rw [show srtI ms = ys from (PySem.W.os_sorted_mergeSort pm pw).symm] at k1
            exact kn_list C.gk e1 r1 (RVs.ofInts ys) k1 p hp
          · cases q4
        · cases q2
      · exact k1.elim
    · cases h
end Pf

set_option Elab.async false
set_option linter.all false
set_option maxRecDepth 100000
/-! ## a, b = e, f where a name is kept for inner texts; list(range(n)) -/
namespace Pf
open PySem L2
theorem RA.ext {Hs : Hp} {G : Gx} {h : Hh} {M M' : Mp} {H H' : Hp} (gk : Gk G) (rl : RL G h M H) (e : Ext M H M' H') : ∀ {l : List (Bool × D)} {xs : List V}, RA Hs G M H l xs → RA Hs G M' H' l xs
  | _, _, .nil => .nil
  | _, _, .pl r t => .pl (r.ext gk rl e) (t.ext gk rl e)
  | _, _, .ow n nv t => .ow (RN.ext gk rl e n) nv (t.ext gk rl e)
def parCB (i j : Nat) (xs : List Xa) (ck : Ck) (st : Stmt) : Bool := match st with
  | .Assign [.Tuple [a, b] tk tp] (.Tuple es ek ep) _ => Tg.oks ck [.n i, .n j] [a, b] && okX xs ck es && decide (xs.length = 2) && !swLc ck.sc (.Tuple es ek ep) (.Tuple [a, b] tk tp) && decide (swSt ck.sc (.Tuple [a, b] tk tp) (.Tuple es ek ep) = some none)
  | _ => false
theorem parCB_some {i j : Nat} {xs : List Xa} {ck : Ck} {st : Stmt} (h : parCB i j xs ck st = true) : ∃ a b tk tp es ek ep p, st = .Assign [.Tuple [a, b] tk tp] (.Tuple es ek ep) p ∧ Tg.oks ck [.n i, .n j] [a, b] = true ∧ okX xs ck es = true ∧ xs.length = 2 ∧ swLc ck.sc (.Tuple es ek ep) (.Tuple [a, b] tk tp) = false ∧ swSt ck.sc (.Tuple [a, b] tk tp) (.Tuple es ek ep) = some none := by
  unfold parCB at h
  split at h
  · simp only [Bool.and_eq_true, decide_eq_true_eq, Bool.not_eq_true'] at h
    obtain ⟨⟨⟨⟨h1, h2⟩, h3⟩, h4⟩, h5⟩ := h
    exact ⟨_, _, _, _, _, _, _, _, rfl, h1, h2, h3, h4, h5⟩
  · cases h
theorem semX_len : ∀ {xs : List Xa} {r : Rho} {h h' : Hh} {ds : List (Bool × D)}, semX xs r h = .ok ds h' → ds.length = xs.length
  | [], r, h, h', ds, e => by cases e; rfl
  | x :: xs, r, h, h', ds, e => by
    unfold semX at e
    cases q : Xa.sem x r h with
    | no => rw [q] at e; cases e
    | exc c fs hx => rw [q] at e; cases e
    | ok d h1 =>
      rw [q] at e
      simp only [bind_ok] at e
      cases q2 : semX xs r h1 with
      | no => rw [q2] at e; cases e
      | exc c fs hx => rw [q2] at e; cases e
      | ok d2 h2 => rw [q2] at e; cases e; simp [semX_len q2]
def Sm.parC (i j : Nat) (xs : List Xa) : Sm where
  sem r h := (semX xs r h).st r fun ds h1 => ofP (setsX [i, j] ds r) h1
  ok := parCB i j xs
  need := needX xs
  snd {X G ck k Wx st} C hk h n := by
    obtain ⟨a, b, tk, tp, es, ek, ep, p, rfl, h1, h2, h3, h4, h5⟩ := parCB_some h
    have hE := eachT (env := X.env) h1
    simp only [Tg.oks, Bool.and_eq_true] at h1
    obtain ⟨g1, g2, _⟩ := h1
    have c1 := consT (es := [b]) g1 (env := X.env)
    have c2 := consT (es := []) g2 (env := X.env)
    cases a <;> simp only [Tg.ok, Bool.false_eq_true] at g1
    cases b <;> simp only [Tg.ok, Bool.false_eq_true] at g2
    simp only [Bool.and_eq_true, atB, decide_eq_true_eq] at g1 g2
    obtain ⟨s1, s2⟩ := st_of C g1.2
    obtain ⟨t1, t2⟩ := st_of C g2.2
    refine PS.imp (ps_asg (pe_tup (sndX xs C h2 n)) (pg_tup C.calm (pgs_cons (pg_name C.nd (by rw [C.hN]; exact g1.1) s1 s2) (pgs_cons (pg_name C.nd (by rw [C.hN]; exact g2.1) t1 t2) pgs_nil c2) c1) hE.1 hE.2) (by rw [swLc_ok C.hsc hk, h4]) (swSt_ok C.hsc hk h5) rfl) fun Dn σ H ⟨M0, H0, r, hh, M, s, k⟩ => ⟨r, hh, M, s.rl, s.re, oneS C.gk s k fun ds vs h1 M1 H1 e1 s1 ra k1 => ?_⟩
    cases e : setsX [i, j] ds r with
    | none => rw [e] at k1; exact k1.elim
    | some r' =>
      rw [e] at k1
      have hl : vs.length = 2 := by rw [← ra.length]; exact setsX_len e
      refine ⟨by rw [hl]; decide, fun q hq => ?_⟩
      refine ⟨q, vs, rfl, SqT.of upd_same, hl, ?_⟩
      have s2 : Sv G M0 H0 r h1 M1 σ (upd H1 q (.tup vs)) := s1.step C.gk (Ext.loose hq) (s1.rl.poke C.gk (s1.rl.free hq) (s1.rl.freeF hq) (nt_none hq))
      have ra2 := ra.ext C.gk s1.rl (Ext.loose (o := .tup vs) hq)
      have fin := k1 _ M1 _ (Keep.new hq) (s2.setsX ra2 s.ent.trk (fun v hv j f q => by
        obtain ⟨a, rfl, ha⟩ := ra2.ows v hv
        exact s.apart ha j f q) e)
      match vs, hl with
      | [v, u], _ => exact ⟨v, [u], rfl, u, [], rfl, rfl, fin⟩
/-- list(range(n)) -/
def Xn.lrng (x : Xp) : Xn where
  sem r h := (x.sem r h).bind fun d h1 => match d with
    | .int j => if decide (0 ≤ j) && decide (j ≤ line) then .ok (.lst ((List.range j.toNat).map fun (k : Nat) => D.int (k : Int))) h1 else .no
    | _ => .no
  ok ck a := match a with
    | .Call (.Name f _) [.Call (.Name g _) [y] [] _] [] _ => f == ("list" : Str) && globB ck f && g == ("range" : Str) && globB ck g && x.ok ck y
    | _ => false
  need t := (BtL t "range" ∧ BtL t "list") ∧ x.need t
  star _ a h := by cases a <;> first | rfl | (simp at h)
  snd {X G ck k Wx a} C h n := by
    split at h
    · simp only [Bool.and_eq_true, beq_iff_eq] at h
      obtain ⟨⟨⟨⟨rfl, hf⟩, rfl⟩, hg⟩, h2⟩ := h
      obtain ⟨f1, f2, f3⟩ := gl_of C hf
      obtain ⟨g1, g2, g3⟩ := gl_of C hg
      have hs := x.star _ _ h2
      refine PE.imp (pe_listRg C.calm f1 (by rw [← C.hmg]; exact n.1.2) (prg_1 g1 (by rw [← C.hmg]; exact n.1.1) (x.snd C h2 n.2) (star_cons hs _))) fun σ H Qv ⟨r, hh, M, rl, re, k⟩ => ⟨r, hh, M, rl, re, one k fun d v h1 M1 H1 e1 r1 b1 k1 => ?_⟩
      try dsimp only at k1
      split at k1
      · rename_i j
        split at k1
        · rename_i hj
          simp only [Bool.and_eq_true, decide_eq_true_eq] at hj
          have hl : line = 16777216 := rfl
          rw [hl] at hj
          cases b1
          refine ⟨_, rfl, RgOk.of_le (by omega) (by omega) (by omega) (by omega), fun p hp => ?_⟩
          have rv : RVs G M1 H1 ((List.range j.toNat).map fun (k : Nat) => D.int (k : Int)) (rgV 0 j) := by
            have := RVs.ofInts (G := G) (M := M1) (H := H1) ((List.range j.toNat).map fun (k : Nat) => (k : Int))
            simpa [rgV, List.map_map, Function.comp_def] using this
          exact kn_list C.gk e1 r1 rv k1 p hp
        · exact k1.elim
      · exact k1.elim
    · cases h
section
variable {r : Rho} {h : Hh}
@[simp] theorem mn_dnil : Xn.dnil.sem r h = .ok (.dct []) h := rfl
@[simp] theorem mn_disp1 {x y : Xp} : (Xn.disp1 x y).sem r h = (x.sem r h).bind fun d h1 => (y.sem r h1).bind fun e h2 => if isK d then .ok (.dct [(d, e)]) h2 else .no := rfl
@[simp] theorem mn_dor {x y : Xo} : (Xn.dor x y).sem r h = (x.sem r h).bind fun d h1 => (y.sem r h1).bind fun e h2 => match vw h2 d, vw h2 e with
    | some (.dct l), some (.dct m) => if l.length + m.length ≤ line then .ok (.dct (dMerge l m)) h2 else .no
    | _, _ => .no := rfl
@[simp] theorem m_dget {x : Xo} {y : Xp} : (Xp.dget x y).sem r h = (x.sem r h).bind fun d h1 => (y.sem r h1).bind fun e h2 => ofO (on1 (dgetE · e) h2 d) h2 := rfl
@[simp] theorem mt_din {x : Xp} {y : Xo} : (Xt.din x y).sem r h = (x.sem r h).bind fun d h1 => (y.sem r h1).bind fun e h2 => ofO (on1 (dinE · d) h2 e) h2 := rfl
@[simp] theorem mt_dnin {x : Xp} {y : Xo} : (Xt.dnin x y).sem r h = (x.sem r h).bind fun d h1 => (y.sem r h1).bind fun e h2 => ofO (on1 (fun z => (dinE z d).map (!·)) h2 e) h2 := rfl
@[simp] theorem ms_dput {j : Nat} {i e : Xp} : (Sm.dput j i e).sem r h = (e.sem r h).st r fun d h1 => match r[j]? with
    | some (.ow (.dct l)) => (i.sem r h1).st r fun k h2 => if isK k && decide (l.length < line) then .nx (r.set j (.ow (.dct (dPut l k d)))) h2 else .no
    | _ => .no := rfl
@[simp] theorem mi_items {x : Xp} : (Ib.items x).sem r h = (x.sem r h).bind fun d h1 => match d with
    | .dct l => .ok (pairsD l) h1
    | _ => .no := rfl
@[simp] theorem mn_dc {ke e : Xp} {t : Tg} {it : Ib} {ifs : Option Xt} {own : List (Str × Nat)} : (Xn.dc ke e t it ifs own).sem r h = dcSem ke e t it ifs own r h := rfl
@[simp] theorem mn_sortD {x : Xo} : (Xn.sortD x).sem r h = (x.sem r h).bind fun d h1 => match on1 sortDE h1 d with
    | some ns => .ok (.lst (ns.map D.int)) h1
    | none => .no := rfl
@[simp] theorem mn_lrng {x : Xp} : (Xn.lrng x).sem r h = (x.sem r h).bind fun d h1 => match d with
    | .int j => if decide (0 ≤ j) && decide (j ≤ line) then .ok (.lst ((List.range j.toNat).map fun (k : Nat) => D.int (k : Int))) h1 else .no
    | _ => .no := rfl
@[simp] theorem ms_parC {i j : Nat} {xs : List Xa} : (Sm.parC i j xs).sem r h = (semX xs r h).st r fun ds h1 => ofP (setsX [i, j] ds r) h1 := rfl
@[simp] theorem vw_dct {l : List (D × D)} : vw h (.dct l) = some (.dct l) := rfl
end
theorem nd_Xn_dnil {tb : Tb}  : (Xn.dnil).need tb = (True) := rfl
theorem nd_Xn_dor {tb : Tb} {x y : Xo} : (Xn.dor x y).need tb = (x.need tb ∧ y.need tb) := rfl
theorem nd_Xp_dget {tb : Tb} {x : Xo} {y : Xp} : (Xp.dget x y).need tb = (x.need tb ∧ y.need tb) := rfl
theorem nd_Xt_din {tb : Tb} {x : Xp} {y : Xo} : (Xt.din x y).need tb = (x.need tb ∧ y.need tb) := rfl
theorem nd_Xt_dnin {tb : Tb} {x : Xp} {y : Xo} : (Xt.dnin x y).need tb = (x.need tb ∧ y.need tb) := rfl
theorem nd_Sm_dput {tb : Tb} {j : Nat} {i e : Xp} : (Sm.dput j i e).need tb = (i.need tb ∧ e.need tb) := rfl
theorem nd_Ib_items {tb : Tb} {x : Xp} : (Ib.items x).need tb = ((x.need) tb) := rfl
theorem nd_Xn_disp1 {tb : Tb} {x y : Xp} : (Xn.disp1 x y).need tb = (x.need tb ∧ y.need tb) := rfl
theorem nd_Xn_dc {tb : Tb} {ke e : Xp} {t : Tg} {it : Ib} {ifs : Option Xt} {own : List (Str × Nat)} : (Xn.dc ke e t it ifs own).need tb = ((e.need tb ∧ it.need tb ∧ needT ifs tb) ∧ ke.need tb) := rfl
theorem nd_Xn_sortD {tb : Tb} {x : Xo} : (Xn.sortD x).need tb = (BtL tb "sorted" ∧ x.need tb) := rfl
theorem nd_Sm_parC {tb : Tb} {i j : Nat} {xs : List Xa} : (Sm.parC i j xs).need tb = ((needX xs) tb) := rfl
theorem nd_Xn_lrng {tb : Tb} {x : Xp} : (Xn.lrng x).need tb = ((BtL tb "range" ∧ BtL tb "list") ∧ x.need tb) := rfl
end Pf

set_option Elab.async false
set_option linter.all false
set_option maxRecDepth 100000
namespace Ev
open PySem L2 Pf
def N_is_number : List Str := ["value", "smallest", "largest"]
def P_is_number : List Str := ["value", "smallest", "largest"]
def ir_is_number : List Si :=
  [.s (Sm.ret (Xp.and (Xp.isi .int (Xo.v 0)) (Xp.and (Xp.not (Xp.isi .bool (Xo.v 0))) (Xp.chain .LtE .LtE (Xo.v 1) (Xo.v 0) (Xo.v 2)))))]
def F_is_number : Fsem := pureOf (fnF 3 3 ir_is_number)
def N_check_count : List Str := ["value", "largest"]
def P_check_count : List Str := ["value", "largest"]
def ir_check_count : List Si :=
  [.s (Sm.ife (Xt.not (Xt.e ((Xp.call "is_number" F_is_number [(Xp.v 0), (Xp.c (.int 1)), (Xp.v 1)])).o))
    [.s (Sm.nev)]
    [])]
def F_check_count : Fsem := pureOf (fnF 2 2 ir_check_count)
def N_is_ask : List Str := ["value"]
def P_is_ask : List Str := ["value"]
def ir_is_ask : List Si :=
  [.s (Sm.ife (Xt.or (Xt.not (Xt.e ((Xp.isi .tuple (Xo.v 0))).o)) (Xt.cmp .NotEq ((Xp.bi .len [(Xo.v 0)])).o ((Xp.c (.int 2))).o))
    [.s (Sm.ret (Xp.c (.bl false)))]
    []),
   .s (Sm.ret (Xp.and (Xp.call "is_number" F_is_number [(Xp.ix (Xo.v 0) ((Xp.c (.int 0))).o), (Xp.c (.int 0)), (Xp.g "MAX_TIME" (.int 1000000000000000))]) (Xp.call "is_number" F_is_number [(Xp.ix (Xo.v 0) ((Xp.c (.int 1))).o), (Xp.c (.int 0)), (Xp.g "MAX_ASKER" (.int 99))])))]
def F_is_ask : Fsem := pureOf (fnF 1 1 ir_is_ask)
def N_check_asks : List Str := ["asks", "index", "ask"]
def P_check_asks : List Str := ["asks"]
def ir_check_asks : List Si :=
  [.s (Sm.for_ (.tu [(.n 1), (.n 2)]) (Ib.en (Xp.v 0))
    [.s (Sm.ife (Xt.or (Xt.cmp .Eq (Xo.v 1) ((Xp.g "MAX_ASKS" (.int 40))).o) (Xt.or (Xt.not (Xt.e ((Xp.call "is_ask" F_is_ask [(Xp.v 2)])).o)) (Xt.and (Xt.cmp .Gt (Xo.v 1) ((Xp.c (.int 0))).o) (Xt.cmp .Lt ((Xp.ix (Xo.v 2) ((Xp.c (.int 0))).o)).o ((Xp.ix ((Xp.ix (Xo.v 0) ((Xp.bin .Sub (Xo.v 1) ((Xp.c (.int 1))).o)).o)).o ((Xp.c (.int 0))).o)).o))))
      [.s (Sm.nev)]
      []), .kill [1, 2]])]
def F_check_asks : Fsem := pureOf (fnF 3 1 ir_check_asks)
def N_Desk___init__ : List Str := ["self", "size", "span"]
def P_Desk___init__ : List Str := ["self", "size", "span"]
def ir_Desk___init__ : List Si :=
  [.s (Sm.setA 6 17 (Xp.v 0) (Xp.v 1)),
   .s (Sm.setA 6 18 (Xp.v 0) (Xp.v 2)),
   .s (Sm.setA 6 19 (Xp.v 0) (Xp.fz Xn.dnil))]
def F_Desk___init__ : Fsem := fnF 3 3 ir_Desk___init__
def N_Desk_ask : List Str := ["self", "time", "maker", "own", "free", "mark", "row"]
def P_Desk_ask : List Str := ["self", "time", "maker"]
def ir_Desk_ask : List Si :=
  [.s (Sm.setA 6 19 (Xp.v 0) (Xp.fz (Xn.dc (Xp.v 5) (Xp.v 6) (.tu [(.n 5), (.n 6)]) (Ib.items (Xp.at 6 19 (Xo.v 0))) (some (Xt.cmp .Lt (Xo.v 1) ((Xp.bin .Add ((Xp.ix (Xo.v 6) ((Xp.c (.int 1))).o)).o ((Xp.at 6 18 (Xo.v 0))).o)).o)) [("mark", 5), ("row", 6)]))),
   .s (Sm.asgLc 3 (Xp.v 5) (.n 5) (Ib.seq (Xp.fz (Xn.sortD ((Xp.at 6 19 (Xo.v 0))).o))) (some (Xt.cmp .Eq ((Xp.ix ((Xp.dget ((Xp.at 6 19 (Xo.v 0))).o (Xp.v 5))).o ((Xp.c (.int 0))).o)).o (Xo.v 2))) [("mark", 5)]),
   .s (Sm.asgLc 4 (Xp.v 5) (.n 5) (Ib.r1 (Xp.at 6 17 (Xo.v 0))) (some (Xt.dnin (Xp.v 5) ((Xp.at 6 19 (Xo.v 0))).o)) [("mark", 5)]),
   .s (Sm.ife (Xt.and (Xt.cmp .Eq (Xo.v 3) ((Xp.fz (Xn.lst []))).o) (Xt.cmp .Eq (Xo.v 4) ((Xp.fz (Xn.lst []))).o))
    [.s (Sm.ret (Xp.c .non))]
    []),
   .s (Sm.asg (.n 5) (Xp.ite (Xt.cmp .NotEq (Xo.v 3) ((Xp.fz (Xn.lst []))).o) (Xp.ix (Xo.v 3) ((Xp.c (.int 0))).o) (Xp.ix (Xo.v 4) ((Xp.c (.int 0))).o))),
   .s (Sm.setA 6 19 (Xp.v 0) (Xp.fz (Xn.dor ((Xp.at 6 19 (Xo.v 0))).o ((Xp.fz (Xn.disp1 (Xp.v 5) (Xp.tup [(Xp.v 2), (Xp.v 1)])))).o))),
   .s (Sm.ret (Xp.v 5))]
def F_Desk_ask : Fsem := fnF 7 3 ir_Desk_ask
def N_marks_of : List Str := ["count", "length", "asks", "desk", "time", "maker"]
def P_marks_of : List Str := ["count", "length", "asks"]
def ir_marks_of : List Si :=
  [.s (Sm.asg (.n 3) (Xp.mkH 6 F_Desk___init__ [(Xp.v 0), (Xp.v 1)])),
   .s (Sm.ret (Xp.fz (Xn.lc (Xp.mc 6 "ask" F_Desk_ask (Xp.v 3) [(Xp.v 4), (Xp.v 5)]) (.tu [(.n 4), (.n 5)]) (Ib.seq (Xp.v 2)) none [("time", 4), ("maker", 5)])))]
def F_marks_of : Fsem := pureOf (fnF 6 3 ir_marks_of)
def N_lent : List Str := ["count", "length", "asks"]
def P_lent : List Str := ["count", "length", "asks"]
def ir_lent : List Si :=
  [.s (Sm.ex (Xp.call "check_count" F_check_count [(Xp.v 0), (Xp.g "MAX_COUNT" (.int 9))])),
   .s (Sm.ex (Xp.call "check_count" F_check_count [(Xp.v 1), (Xp.g "MAX_LENGTH" (.int 1000000000))])),
   .s (Sm.ex (Xp.call "check_asks" F_check_asks [(Xp.v 2)])),
   .s (Sm.ret (Xp.call "marks_of" F_marks_of [(Xp.v 0), (Xp.v 1), (Xp.v 2)]))]
def F_lent : Fsem := pureOf (fnF 3 3 ir_lent)
def N_holders : List Str := ["count", "length", "asks", "time", "rows", "found", "mark", "begun", "maker"]
def P_holders : List Str := ["count", "length", "asks", "time"]
def ir_holders : List Si :=
  [.s (Sm.ex (Xp.call "check_count" F_check_count [(Xp.v 0), (Xp.g "MAX_COUNT" (.int 9))])),
   .s (Sm.ex (Xp.call "check_count" F_check_count [(Xp.v 1), (Xp.g "MAX_LENGTH" (.int 1000000000))])),
   .s (Sm.ex (Xp.call "check_asks" F_check_asks [(Xp.v 2)])),
   .s (Sm.ife (Xt.not (Xt.e ((Xp.call "is_number" F_is_number [(Xp.v 3), (Xp.c (.int 0)), (Xp.bin .Mult ((Xp.c (.int 2))).o ((Xp.g "MAX_TIME" (.int 1000000000000000))).o)])).o))
    [.s (Sm.nev)]
    []),
   .s (Sm.asgLc 4 (Xp.tup [(Xp.v 7), (Xp.v 8)]) (.tu [(.n 7), (.n 8)]) (Ib.seq (Xp.v 2)) (some (Xt.cmp .LtE (Xo.v 7) (Xo.v 3))) [("begun", 7), ("maker", 8)]),
   .s (Sm.asgO 5 Xn.dnil),
   .s (Sm.for_ (.tu [(.n 6), (.tu [(.n 7), (.n 8)])]) (Ib.zip2 (Xp.call "marks_of" F_marks_of [(Xp.v 0), (Xp.v 1), (Xp.v 4)]) (Xp.v 4))
    [.s (Sm.ife (Xt.cmp .IsNot (Xo.v 6) ((Xp.c .non)).o)
      [.s (Sm.dput 5 (Xp.v 6) (Xp.tup [(Xp.v 8), (Xp.v 7)]))]
      []), .kill [7, 8]]),
   .s (Sm.ret (Xp.fz (Xn.lc (Xp.tup [(Xp.v 6), (Xp.ix ((Xp.dget (Xo.v 5) (Xp.v 6))).o ((Xp.c (.int 0))).o)]) (.n 6) (Ib.seq (Xp.fz (Xn.sortD (Xo.v 5)))) (some (Xt.cmp .Lt (Xo.v 3) ((Xp.bin .Add ((Xp.ix ((Xp.dget (Xo.v 5) (Xp.v 6))).o ((Xp.c (.int 1))).o)).o (Xo.v 1))).o)) [("mark", 6)])))]
def F_holders : Fsem := pureOf (fnF 9 4 ir_holders)
end Ev

set_option Elab.async false
set_option linter.all false
set_option maxRecDepth 100000
/-! ## Classes without slots: what the head tells -/
namespace Pf
open PySem L2
section
variable {P : Program} {w : World} {G : Gx} {base : Heap} {k j : Nat} {f m qual : Str} {st : Stmt} {C : Addr} {c : Nat} {N ps : List Str} {ss : List Si} {F : Fsem}
theorem MemAt.methL (gk : Gk G) (D : MemAt G.K C m qual st) (hc : G.mg (nmC c) = some (.ref C)) (sl : isSl c = false) (cl : Cls G.K C) (hsc : FnScope N ps (defScope st)) (ok : okSs ss ⟨N, defScope st, false⟩ (defBody st) = true) (nd : needSs ss ⟨P, w, G, base, k⟩)
    (hb : ∀ (kV doc pm : Value) (an : Option Addr) (cdv ct : Value) (us : List Value), us.length = ps.length → bindArgs (PySem.W.fnOf m qual (defArgs st) (defBody st) (defScope st) .none kV doc pm an cdv ct) ⟨us, []⟩ = pure (ps.zip us)) (hj : k + 3 ≤ j) : MethL ⟨P, w, G, base, j⟩ c m (fnF N.length ps.length ss) := by
  obtain ⟨g, fd, h1, h2, Fn⟩ := D.ex
  exact ⟨C, g, fd, ps, ⟨hc, .inl ⟨sl, cl⟩⟩, ⟨h1, h2, Fn.kp⟩, Fn.binds hb, (fnok_L gk Fn hsc ok nd).mono hj⟩
theorem fld_pl {t : Tb} {c f : Nat} {C : Addr} (hf : f < 33) (hc : t.G.mg (nmC c) = some (.ref C)) (sl : isSl c = false) (cl : Cls t.G.K C) (na : NoAttr t.G.K C (nmF f)) : FldL t c f := ⟨hf, C, hc, .inl ⟨sl, cl, na⟩⟩
end
end Pf

set_option Elab.async false
set_option linter.all false
set_option maxRecDepth 100000
namespace Ev
open PySem L2 Pf
theorem atI_nat (l : List D) (n : Nat) : atI l (n : Int) = l[n]? := by
  unfold atI ixN
  by_cases h : n < l.length
  · simp [h]
  · simp [h]
@[simp] theorem ix0 (a : D) (l : List D) : atI (a :: l) 0 = some a := by simp [atI, ixN]
@[simp] theorem ix1 (a b : D) (l : List D) : atI (a :: b :: l) 1 = some b := (atI_nat _ 1).trans rfl
@[simp] theorem ix2 (a b c : D) (l : List D) : atI (a :: b :: c :: l) 2 = some c := (atI_nat _ 2).trans rfl
@[simp] theorem ix3 (a b c d : D) (l : List D) : atI (a :: b :: c :: d :: l) 3 = some d := (atI_nat _ 3).trans rfl
theorem eqv_dep {d : D} (h : dep 60 d = true) : PyData.eqv (pd d) (pd d) = true := SeqAt.eqv_refl _ (canLay_dep 60 d h).1
theorem eq_same {d : D} (h : dep 60 d = true) : cmpE .Eq d d = some true := by simp [cmpE, eqE, h, eqv_dep h]
theorem ne_same {d : D} (h : dep 60 d = true) : cmpE .NotEq d d = some false := by simp [cmpE, eqE, h, eqv_dep h]
theorem eq_nil (l : List Int) : cmpE .Eq (.lst (l.map D.int)) (.lst []) = some (decide (l = [])) := by
  cases l with
  | nil => exact eq_same rfl
  | cons a l => simp [cmpE, eqE, dep, pd, pds, PyData.eqv, PyData.eqvAll]
theorem ne_nil (l : List Int) : cmpE .NotEq (.lst (l.map D.int)) (.lst []) = some (!decide (l = [])) := by
  have := eq_nil l
  simp only [cmpE] at this ⊢
  rw [this]; rfl
/-! tables: mark, (maker, time) -/
abbrev Tab := List (Int × Int × Int)
def dv (v : Int × Int) : D := .tup [.int v.1, .int v.2]
def ent (p : Int × Int × Int) : D × D := (.int p.1, dv p.2)
def dRow (l : Tab) : D := .dct (l.map ent)
def tlook (l : Tab) (m : Int) : Option (Int × Int) := (l.find? fun p => decide (p.1 = m)).map (·.2)
def tput (l : Tab) (m : Int) (v : Int × Int) : Tab := if (l.any fun p => decide (p.1 = m)) = true then l.map (fun p => if p.1 = m then (p.1, v) else p) else l ++ [(m, v)]
def keys (l : Tab) : List Int := l.map (·.1)
theorem dLook_ent (m : Int) : ∀ l : Tab, dLook (l.map ent) (.int m) = (tlook l m).map dv
  | [] => rfl
  | p :: l => by
    have ih := dLook_ent m l
    unfold dLook tlook at ih ⊢
    simp only [List.map_cons, List.find?_cons, ent, kEq]
    by_cases h : p.1 = m
    · simp [h]
    · simp only [h, decide_false]
      exact ih
theorem any_ent (m : Int) : ∀ l : Tab, ((l.map ent).any fun p => kEq p.1 (.int m)) = l.any fun p => decide (p.1 = m)
  | [] => rfl
  | p :: l => by
    rw [List.map_cons, List.any_cons, List.any_cons, any_ent m l]
    rfl
theorem dPut_ent (l : Tab) (m : Int) (v : Int × Int) : dPut (l.map ent) (.int m) (dv v) = (tput l m v).map ent := by
  unfold dPut tput
  rw [any_ent]
  split
  · rw [List.map_map, List.map_map]
    refine List.map_congr_left fun p _ => ?_
    simp only [Function.comp, ent, kEq]
    by_cases h : p.1 = m <;> simp [h, ent]
  · simp [ent]
theorem ints_ent : ∀ l : Tab, intsOf (l.map ent) = some (keys l)
  | [] => rfl
  | p :: l => by simp [ent, intsOf, ints_ent l, keys]
theorem sort_ent (l : Tab) (h : l.length < 64) (hh : Hh) : on1 sortDE hh (dRow l) = some (srtI (keys l)) := by
  simp [on1, dRow, vw, sortDE, ints_ent, keys, h]
theorem tput_len (l : Tab) (m : Int) (v : Int × Int) : (tput l m v).length ≤ l.length + 1 := by
  unfold tput
  split <;> simp
theorem tput_new {l : Tab} {m : Int} (h : m ∉ keys l) (v : Int × Int) : tput l m v = l ++ [(m, v)] := by
  unfold tput
  rw [if_neg]
  simp only [List.any_eq_true, not_exists]
  rintro x ⟨hx, e⟩
  exact h (by simp only [decide_eq_true_eq] at e; rw [← e]; exact List.mem_map_of_mem hx)
theorem keys_tput (l : Tab) (m : Int) (v : Int × Int) : keys (tput l m v) = if m ∈ keys l then keys l else keys l ++ [m] := by
  by_cases h : m ∈ keys l
  · rw [if_pos h]
    unfold tput
    rw [if_pos]
    · unfold keys
      rw [List.map_map]
      refine List.map_congr_left fun p _ => ?_
      simp only [Function.comp]
      split <;> rfl
    · obtain ⟨p, hp, e⟩ := List.mem_map.mp h
      exact List.any_eq_true.mpr ⟨p, hp, by simpa using e⟩
  · rw [if_neg h, tput_new h]
    simp [keys]
theorem nodup_tput {l : Tab} (h : (keys l).Nodup) (m : Int) (v : Int × Int) : (keys (tput l m v)).Nodup := by
  rw [keys_tput]
  split
  · exact h
  · rename_i hm
    rw [List.nodup_append]
    refine ⟨h, by simp, fun a ha b hb => ?_⟩
    simp at hb; subst hb
    exact fun z => hm (z ▸ ha)
theorem tlook_some {l : Tab} {m : Int} (h : m ∈ keys l) : ∃ v, tlook l m = some v := by
  obtain ⟨p, hp, e⟩ := List.mem_map.mp h
  unfold tlook
  cases q : l.find? fun p => decide (p.1 = m) with
  | some x => exact ⟨x.2, rfl⟩
  | none =>
    have := List.find?_eq_none.mp q p hp
    simp [e] at this
theorem tlook_mem {l : Tab} {m : Int} {v : Int × Int} (h : tlook l m = some v) : (m, v) ∈ l := by
  unfold tlook at h
  obtain ⟨p, hp, e⟩ := Option.map_eq_some_iff.mp h
  have h1 := List.mem_of_find?_eq_some hp
  have h2 := List.find?_some hp
  simp only [decide_eq_true_eq] at h2
  obtain ⟨a, b⟩ := p
  simp only at h2 e
  subst h2 e
  exact h1
theorem tlook_of {l : Tab} (nd : (keys l).Nodup) {m : Int} {v : Int × Int} (h : (m, v) ∈ l) : tlook l m = some v := by
  induction l with
  | nil => cases h
  | cons p l ih =>
    simp only [keys, List.map_cons, List.nodup_cons] at nd
    rcases List.mem_cons.mp h with e | e
    · subst e; simp [tlook]
    · have hne : p.1 ≠ m := fun z => nd.1 (List.mem_map.mpr ⟨(m, v), e, z.symm⟩)
      have := ih nd.2 e
      unfold tlook at this ⊢
      rw [List.find?_cons]
      simp only [hne, decide_false]
      exact this
theorem mem_srt {l : List Int} {m : Int} : m ∈ srtI l ↔ m ∈ l := by unfold srtI; exact List.mem_mergeSort
/-- a dict comprehension that keeps some entries -/
theorem dc_filter {t : Tg} {b : Rho → Hh → Res Bool} {ke e : Rho → Hh → Res D} {r : Rho} {h : Hh} {p : Int × Int × Int → Bool} : ∀ (l acc : Tab), (keys (acc ++ l)).Nodup →
    (∀ x ∈ l, ∃ r2, t.put (.tup [.int x.1, dv x.2]) r = some r2 ∧ b r2 h = .ok (p x) h ∧ ke r2 h = .ok (.int x.1) h ∧ e r2 h = .ok (dv x.2) h) →
    dcGo t b ke e r (l.map fun x => .tup [.int x.1, dv x.2]) (acc.map ent) h = .ok ((acc ++ l.filter p).map ent) h
  | [], acc, _, _ => by simp [dcGo]
  | x :: l, acc, nd, hx => by
    obtain ⟨r2, h1, h2, h3, h4⟩ := hx x List.mem_cons_self
    have hnx : x.1 ∉ keys acc := by
      simp only [keys, List.map_append, List.map_cons, List.nodup_append] at nd
      exact fun z => nd.2.2 _ z _ List.mem_cons_self rfl
    have nd2 : (keys (acc ++ l)).Nodup := by
      refine List.Sublist.nodup ?_ nd
      unfold keys
      exact (List.sublist_cons_self x l |>.append_left acc).map _
    have nd3 : (keys ((acc ++ [x]) ++ l)).Nodup := by simpa using nd
    simp only [List.map_cons, dcGo, h1, h2, noX_ok, bind_ok]
    cases q : p x with
    | false =>
      simp only [Bool.false_eq_true, if_false]
      rw [dc_filter l acc nd2 fun y hy => hx y (List.mem_cons_of_mem _ hy)]
      simp [q]
    | true =>
      simp only [if_true, h3, h4, noX_ok, bind_ok, isK]
      rw [dPut_ent, tput_new hnx, dc_filter l (acc ++ [(x.1, x.2)]) (by simpa using nd) fun y hy => hx y (List.mem_cons_of_mem _ hy)]
      simp [q]
theorem lc_map {α : Type} {t : Tg} {b : Rho → Hh → Res Bool} {e : Rho → Hh → Res D} {r : Rho} {h : Hh} {f g : α → D} : ∀ (l : List α), (∀ x ∈ l, ∃ r2, t.put (f x) r = some r2 ∧ b r2 h = .ok true h ∧ e r2 h = .ok (g x) h) → lcGo t b e r (l.map f) h = .ok (l.map g) h
  | [], _ => rfl
  | x :: l, hx => by
    obtain ⟨r2, h1, h2, h3⟩ := hx x List.mem_cons_self
    have ih := lc_map l fun y hy => hx y (List.mem_cons_of_mem _ hy)
    simp [lcGo, h1, h2, h3, ih]
theorem lc_filter {α : Type} {t : Tg} {b : Rho → Hh → Res Bool} {e : Rho → Hh → Res D} {r : Rho} {h : Hh} {f g : α → D} {p : α → Bool} : ∀ (l : List α), (∀ x ∈ l, ∃ r2, t.put (f x) r = some r2 ∧ b r2 h = .ok (p x) h ∧ e r2 h = .ok (g x) h) → lcGo t b e r (l.map f) h = .ok ((l.filter p).map g) h
  | [], _ => rfl
  | x :: l, hx => by
    obtain ⟨r2, h1, h2, h3⟩ := hx x List.mem_cons_self
    have ih := lc_filter l fun y hy => hx y (List.mem_cons_of_mem _ hy)
    cases q : p x <;> simp [lcGo, h1, h2, h3, ih, q, List.filter_cons]
theorem nrs_map {α : Type} (f : α → D) (hf : ∀ x, nr (f x) = true) : ∀ l : List α, nrs (l.map f) = true
  | [] => rfl
  | x :: l => by simp [nrs, hf, nrs_map f hf l]
end Ev

set_option Elab.async false
set_option linter.all false
set_option maxRecDepth 100000
namespace Ev
open PySem L2 Pf
local macro_rules | `(tactic| walk_at "ev") => `(tactic| simp [startR, semA, semB, semS, semX, semO, semT, nrs, nr, nrf, nrp, Tg.put, Tg.puts, on1, on2, onL, vws, binE, ixE, slE, items, atI, ixN, ixNat, fldE, isIns, biE, bnE, itemsL, lenE, isE, List.lookup_cons, frzR, killR, setsX, slOf, toB, chainS, ofB, truE, rngOk, mulOk, powOk, putD, cmp_eq_int, cmp_ne_int, isNonD, line, lcSem, wipeR])
theorem at_is_number (v a b : Int) (h : Hh) : F_is_number [.int v, .int a, .int b] h = .ok (.bl (decide (a ≤ v ∧ v ≤ b))) h := by
  refine pure_of (h' := []) rfl rfl rfl ?_
  unfold ir_is_number
  walk_at "ev"
  by_cases q : a ≤ v <;> simp [q]
theorem at_check_count (v b : Int) (h : Hh) (h1 : 1 ≤ v) (h2 : v ≤ b) : F_check_count [.int v, .int b] h = .ok .non h := by
  refine pure_of (h' := []) rfl rfl rfl ?_
  unfold ir_check_count
  simp [startR, semA, at_is_number, on1, truE, h1, h2, outR]
theorem at_is_ask (v : Int × Int) (h : Hh) (h1 : 0 ≤ v.1) (h2 : v.1 ≤ 1000000000000000) (h3 : 0 ≤ v.2) (h4 : v.2 ≤ 99) : F_is_ask [dv v] h = .ok (.bl true) h := by
  refine pure_of (h' := []) rfl rfl rfl ?_
  unfold ir_is_ask dv
  walk_at "ev"
  simp [at_is_number, h1, h2, h3, h4]
def desk (size span : Int) (rows : Tab) : D := .ins 6 [(17, .int size), (18, .int span), (19, dRow rows)]
theorem at_init (size span : Int) : F_Desk___init__ [.ref 0, .int size, .int span] [.ins 6 []] = .ok .non [desk size span []] := by
  unfold F_Desk___init__ ir_Desk___init__ fnF desk dRow
  walk_at "ev"
/-- what an ask does to a table -/
def liveT (span t : Int) (rows : Tab) : Tab := rows.filter fun p => decide (t < p.2.2 + span)
def mk0 (rows : Tab) (m : Int) : Int := match tlook rows m with
  | some v => v.1
  | none => 0
def mk1 (rows : Tab) (m : Int) : Int := match tlook rows m with
  | some v => v.2
  | none => 0
def ownT (rows : Tab) (k : Int) : List Int := (srtI (keys rows)).filter fun m => decide (mk0 rows m = k)
def rngI (n : Int) : List Int := (List.range n.toNat).map fun (i : Nat) => (i : Int)
def freeT (size : Int) (rows : Tab) : List Int := (rngI size).filter fun m => (tlook rows m).isNone
def pickM (own free : List Int) : Option Int := match own with
  | m :: _ => some m
  | [] => free.head?
def askP (size span : Int) (rows : Tab) (t k : Int) : Option Int × Tab :=
  let r := liveT span t rows
  match pickM (ownT r k) (freeT size r) with
  | none => (none, r)
  | some m => (some m, tput r m (k, t))
def dO : Option Int → D
  | none => .non
  | some i => .int i
theorem live_nodup {rows : Tab} (nd : (keys rows).Nodup) (span t : Int) : (keys (liveT span t rows)).Nodup := List.Sublist.nodup (List.filter_sublist.map _) nd
theorem live_len (rows : Tab) (span t : Int) : (liveT span t rows).length ≤ rows.length := List.length_filter_le _ _
theorem dget_ent (rows : Tab) (m : Int) (h : Hh) : on1 (dgetE · (.int m)) h (dRow rows) = (tlook rows m).map dv := by
  simp [on1, dRow, vw, dgetE, isK, dLook_ent]
theorem din_ent (rows : Tab) (m : Int) (h : Hh) : on1 (fun z => (dinE z (.int m)).map (!·)) h (dRow rows) = some (tlook rows m).isNone := by
  simp [on1, dRow, vw, dinE, isK, dLook_ent]
theorem at_ask (size span : Int) (rows : Tab) (t k : Int) (nd : (keys rows).Nodup) (hl : rows.length < 60) (h0 : 0 ≤ size) (h1 : size ≤ 1000) :
    F_Desk_ask [.ref 0, .int t, .int k] [desk size span rows] = .ok (dO (askP size span rows t k).1) [desk size span (askP size span rows t k).2] := by
  have k1 := dc_filter (t := .tu [.n 5, .n 6]) (b := semT (some (Xt.cmp .Lt (Xo.v 1) ((Xp.bin .Add ((Xp.ix (Xo.v 6) ((Xp.c (.int 1))).o)).o ((Xp.at 6 18 (Xo.v 0))).o)).o))) (ke := (Xp.v 5).sem) (e := (Xp.v 6).sem) (r := [.pl (.ref 0), .pl (.int t), .pl (.int k), .un, .un, .un, .un]) (h := [desk size span rows]) (p := fun p => decide (t < p.2.2 + span)) rows [] (by simpa using nd) fun x _ => ⟨_, rfl, by
    simp [semT, dv, on1, on2, ixE, items, binE, fldE, desk, List.lookup_cons, Tg.put, Tg.puts], by simp [Tg.put, Tg.puts], by simp [Tg.put, Tg.puts]⟩
  have nd2 := live_nodup nd span t
  have hl2 := live_len rows span t
  generalize hg : liveT span t rows = R at nd2 hl2
  have k1' : rows.filter (fun p => decide (t < p.2.2 + span)) = R := hg
  simp only [List.map_nil, List.nil_append, k1'] at k1
  have k2 := lc_filter (t := .n 5) (b := semT (some (Xt.cmp .Eq ((Xp.ix ((Xp.dget ((Xp.at 6 19 (Xo.v 0))).o (Xp.v 5))).o ((Xp.c (.int 0))).o)).o (Xo.v 2)))) (e := (Xp.v 5).sem) (r := [.pl (.ref 0), .pl (.int t), .pl (.int k), .un, .un, .un, .un]) (h := [desk size span R]) (f := D.int) (g := D.int) (p := fun m => decide (mk0 R m = k)) (srtI (keys R)) fun m hm => ⟨_, rfl, by
    obtain ⟨v, hv⟩ := tlook_some (mem_srt.mp hm)
    have e1 := dget_ent R m [desk size span R]
    rw [hv] at e1
    simp [semT, desk, on2, fldE, List.lookup_cons] at e1 ⊢
    simp [on1, fldE, List.lookup_cons] at e1 ⊢
    simp [e1, dv, ixE, items, cmp_eq_int, mk0, hv], by simp⟩
  have k3 := lc_filter (t := .n 5) (b := semT (some (Xt.dnin (Xp.v 5) ((Xp.at 6 19 (Xo.v 0))).o))) (e := (Xp.v 5).sem) (r := [.pl (.ref 0), .pl (.int t), .pl (.int k), .pl (.lst ((ownT R k).map D.int)), .un, .un, .un]) (h := [desk size span R]) (f := D.int) (g := D.int) (p := fun m => (tlook R m).isNone) (rngI size) fun m hm => ⟨_, rfl, by
    have e1 := din_ent R m [desk size span R]
    simp [semT, desk, on2, fldE, List.lookup_cons] at e1 ⊢
    simp [on1, fldE, List.lookup_cons] at e1 ⊢
    simp [e1], by simp⟩
  have k4 : ∀ m, dMerge (R.map ent) [(.int m, .tup [.int k, .int t])] = (tput R m (k, t)).map ent := fun m => dPut_ent R m (k, t)
  unfold F_Desk_ask ir_Desk_ask fnF
  have hs : sortDE (.dct (R.map ent)) = some (srtI (keys R)) := sort_ent R (by omega) []
  have hl3 : (srtI (keys R)).length ≤ 16777216 := by simp [srtI, keys]; omega
  have hl4 : size.toNat ≤ 16777216 := by omega
  have hr : rngOk size = true := by simp [rngOk]; omega
  have e3 : (rngI size).map D.int = (List.range size.toNat).map fun (i : Nat) => D.int (i : Int) := by simp [rngI, List.map_map, Function.comp_def]
  rw [e3] at k3
  simp only [desk, dRow] at k1 k2 k3 ⊢
  have hl5 : rows.length ≤ 16777216 := by omega
  have hl6 : R.length + 1 ≤ 16777216 := by omega
  simp [startR, Tg.put, Tg.puts, on1, fldE, List.lookup_cons, dcSem, wipeR, pairsD, line, List.map_map, Function.comp_def, ent, hl5] at k1 ⊢
  simp [k1, putD]
  have e4 : (srtI (keys R)).filter (fun m => decide (mk0 R m = k)) = ownT R k := rfl
  have e5 : (rngI size).filter (fun m => (tlook R m).isNone) = freeT size R := rfl
  rw [e4] at k2
  rw [e5] at k3
  have e6 : askP size span rows t k = match pickM (ownT R k) (freeT size R) with
    | none => (none, R)
    | some m => (some m, tput R m (k, t)) := by unfold askP; rw [hg]
  rw [e6]
  clear e6 e4 e5
  generalize ownT R k = O at k2 k3 ⊢
  generalize freeT size R = Fr at k3 ⊢
  simp [lcSem, wipeR, on1, fldE, List.lookup_cons, hs, line, items, hl3, k2, hr, hl4, k3]
  have q1 := eq_nil O
  have q2 := eq_nil Fr
  have q3 := ne_nil O
  have q4 : cmpE .Eq (.lst []) (.lst []) = some true := eq_same rfl
  have q5 : cmpE .NotEq (.lst []) (.lst []) = some false := ne_same rfl
  clear k1 k2 k3
  cases O with
  | nil =>
    cases Fr with
    | nil => simp [semA, on2, line, q4, pickM, dO]
    | cons b Fr =>
      simp [semA, on2, line, q4, q5, pickM, dO] at q2 ⊢
      simp [semA, q2, q4, q5, ixE, items, Tg.put, isK, k4, hl6, on1, on2, fldE, List.lookup_cons, putD, line]
  | cons a O =>
    simp [semA, on2, line, pickM, dO] at q1 q3 ⊢
    simp [semA, q1, q3, ixE, items, Tg.put, isK, k4, hl6, on1, on2, fldE, List.lookup_cons, putD, line]
end Ev

set_option Elab.async false
set_option linter.all false
set_option maxRecDepth 100000
/-! ## lending: the desk against a table that forgets nothing -/
namespace Ev
open PySem L2 Pf
/-- what is lent still -/
def lv (span t : Int) (o : Option (Int × Int)) : Option (Int × Int) := o.filter fun v => decide (t < v.2 + span)
def runA (size span : Int) : Tab → List (Int × Int) → List (Option Int) × Tab
  | r, [] => ([], r)
  | r, a :: l => let x := askP size span r a.1 a.2; let y := runA size span x.2 l; (x.1 :: y.1, y.2)
/-- the law's table -/
def thereL (span t : Int) (rows : Tab) : List Int := (srtI (keys rows)).filter fun m => decide (t < mk1 rows m + span)
def ownL (span t k : Int) (rows : Tab) : List Int := (thereL span t rows).filter fun m => decide (mk0 rows m = k)
def freeL (size span t : Int) (rows : Tab) : List Int := (rngI size).filter fun m => !decide (m ∈ thereL span t rows)
def askL (size span : Int) (rows : Tab) (t k : Int) : Option Int × Tab := match pickM (ownL span t k rows) (freeL size span t rows) with
  | none => (none, rows)
  | some m => (some m, tput rows m (k, t))
def runL (size span : Int) : Tab → List (Int × Int) → List (Option Int) × Tab
  | r, [] => ([], r)
  | r, a :: l => let x := askL size span r a.1 a.2; let y := runL size span x.2 l; (x.1 :: y.1, y.2)
theorem tlook_none {l : Tab} {m : Int} (h : m ∉ keys l) : tlook l m = none := by
  unfold tlook
  rw [List.find?_eq_none.mpr]
  · rfl
  · intro p hp e
    simp only [decide_eq_true_eq] at e
    exact h (e ▸ List.mem_map_of_mem hp)
theorem mem_keys {l : Tab} {m : Int} : m ∈ keys l ↔ (tlook l m).isSome = true := by
  constructor
  · intro h; obtain ⟨v, e⟩ := tlook_some h; rw [e]; rfl
  · intro h
    by_cases q : m ∈ keys l
    · exact q
    · rw [tlook_none q] at h; cases h
theorem tlook_live {rows : Tab} (nd : (keys rows).Nodup) (span t m : Int) : tlook (liveT span t rows) m = lv span t (tlook rows m) := by
  unfold lv
  cases e : tlook rows m with
  | none =>
    refine tlook_none fun h => ?_
    have : m ∈ keys rows := (List.filter_sublist.map _).subset h
    rw [mem_keys, e] at this; cases this
  | some v =>
    have hm := tlook_mem e
    by_cases q : t < v.2 + span
    · simp only [Option.filter, q, decide_true, if_true]
      exact tlook_of (live_nodup nd span t) (List.mem_filter.mpr ⟨hm, by simpa using q⟩)
    · simp only [Option.filter, q, decide_false, Bool.false_eq_true, if_false]
      refine tlook_none fun h => ?_
      obtain ⟨p, hp, e1⟩ := List.mem_map.mp h
      obtain ⟨h1, h2⟩ := List.mem_filter.mp hp
      obtain ⟨a, b⟩ := p
      simp only at e1; subst e1
      have := tlook_of nd h1
      rw [e] at this; cases this
      exact q (by simpa using h2)
theorem tlook_tput {rows : Tab} (m n : Int) (v : Int × Int) : tlook (tput rows m v) n = if n = m then some v else tlook rows n := by
  induction rows with
  | nil => 
    by_cases h : n = m
    · subst h; simp [tput, tlook]
    · have : ¬ m = n := fun z => h z.symm
      simp [tput, tlook, h, this]
  | cons p l ih =>
    by_cases q : p.1 = m
    · have e : tput (p :: l) m v = (p.1, v) :: l.map (fun p => if p.1 = m then (p.1, v) else p) := by simp [tput, q]
      rw [e]
      by_cases h : n = m
      · subst h; simp [tlook, q]
      · have hn : ¬ p.1 = n := fun z => h (z.symm.trans q)
        have hmn : ¬ m = n := fun z => h z.symm
        simp only [h, if_false]
        unfold tlook
        rw [List.find?_cons, List.find?_cons]
        simp only [hn, decide_false]
        clear e ih
        induction l with
        | nil => rfl
        | cons a l ih =>
          by_cases w : a.1 = m
          · simp only [List.map_cons, w, if_true, List.find?_cons, hmn, decide_false]; exact ih
          · by_cases x : a.1 = n
            · have nm : ¬ n = m := h
              simp only [List.map_cons, w, if_false, List.find?_cons, x, nm, decide_true]
            · simp only [List.map_cons, w, if_false, List.find?_cons, x, decide_false]; exact ih
    · have e : tput (p :: l) m v = p :: tput l m v := by
        unfold tput
        simp only [List.any_cons, q, decide_false, Bool.false_or, List.map_cons, if_false, List.cons_append]
        split <;> rfl
      rw [e]
      by_cases h : p.1 = n
      · have : ¬ n = m := fun z => q (h.trans z)
        simp [tlook, h, this]
      · unfold tlook at ih ⊢
        rw [List.find?_cons, List.find?_cons]
        simp only [h, decide_false]
        exact ih
/-- sorted lists without repeats are alike if their members are -/
theorem srt_ext {a b : List Int} (pa : a.Pairwise (· ≤ ·)) (pb : b.Pairwise (· ≤ ·)) (na : a.Nodup) (nb : b.Nodup) (h : ∀ m, m ∈ a ↔ m ∈ b) : a = b :=
  List.Perm.eq_of_pairwise (fun x y _ _ h1 h2 => Int.le_antisymm h1 h2) pa pb ((List.perm_ext_iff_of_nodup na nb).mpr h)
theorem srt_pw (l : List Int) : (srtI l).Pairwise (· ≤ ·) := by
  have := List.pairwise_mergeSort (le := fun (x y : Int) => decide (x ≤ y)) (fun a b c h1 h2 => by simp only [decide_eq_true_eq] at *; omega) (fun a b => by simp only [Bool.or_eq_true, decide_eq_true_eq]; omega) l
  exact this.imp fun h => by simpa using h
theorem srt_nd {l : List Int} (h : l.Nodup) : (srtI l).Nodup := (List.mergeSort_perm l _).nodup_iff.mpr h
structure Sim (span t0 : Int) (R L : Tab) : Prop where
  nr : (keys R).Nodup
  nl : (keys L).Nodup
  eq : ∀ t m, t0 ≤ t → lv span t (tlook R m) = lv span t (tlook L m)
theorem mk1_eq {L : Tab} {m : Int} {v : Int × Int} (h : tlook L m = some v) : mk1 L m = v.2 := by unfold mk1; rw [h]
theorem mk0_eq {L : Tab} {m : Int} {v : Int × Int} (h : tlook L m = some v) : mk0 L m = v.1 := by unfold mk0; rw [h]
theorem mem_there {span t : Int} {L : Tab} {m : Int} : m ∈ thereL span t L ↔ (lv span t (tlook L m)).isSome = true := by
  unfold thereL
  rw [List.mem_filter, mem_srt, mem_keys]
  unfold lv
  cases e : tlook L m with
  | none => simp
  | some v => simp [mk1_eq e, Option.filter]
theorem Sim.there {span t0 t : Int} {R L : Tab} (s : Sim span t0 R L) (ht : t0 ≤ t) : srtI (keys (liveT span t R)) = thereL span t L := by
  refine srt_ext (srt_pw _) ((srt_pw _).sublist List.filter_sublist) (srt_nd (live_nodup s.nr span t)) (List.filter_sublist.nodup (srt_nd s.nl)) fun m => ?_
  rw [mem_srt, mem_keys, tlook_live s.nr, mem_there, s.eq t m ht]
theorem Sim.step {span t0 t : Int} {R L : Tab} (size k : Int) (s : Sim span t0 R L) (ht : t0 ≤ t) : (askP size span R t k).1 = (askL size span L t k).1 ∧ Sim span t (askP size span R t k).2 (askL size span L t k).2 := by
  have e1 := s.there ht
  have e2 : ownT (liveT span t R) k = ownL span t k L := by
    unfold ownT ownL
    rw [e1]
    refine List.filter_congr fun m hm => ?_
    have hm := mem_there.mp hm
    have q := s.eq t m ht
    have q2 := tlook_live s.nr span t m
    rw [q] at q2
    cases z : tlook L m with
    | none => rw [z] at hm; cases hm
    | some v =>
      rw [z] at q2 hm
      unfold lv at q2 hm
      by_cases w : t < v.2 + span
      · simp only [Option.filter, w, decide_true, if_true] at q2
        rw [mk0_eq q2, mk0_eq z]
      · simp [Option.filter, w] at hm
  have e3 : freeT size (liveT span t R) = freeL size span t L := by
    unfold freeT freeL
    refine List.filter_congr fun m _ => ?_
    rw [tlook_live s.nr, s.eq t m ht]
    have := mem_there (span := span) (t := t) (L := L) (m := m)
    cases q : lv span t (tlook L m) <;> simp [this, q]
  unfold askP askL
  simp only [e2, e3]
  cases q : pickM (ownL span t k L) (freeL size span t L) with
  | none => 
    refine ⟨rfl, live_nodup s.nr span t, s.nl, fun t' m h' => ?_⟩
    dsimp only
    rw [tlook_live s.nr, ← s.eq t' m (by omega)]
    unfold lv
    cases tlook R m with
    | none => rfl
    | some v =>
      by_cases w : t < v.2 + span
      · simp [Option.filter, w]
      · have : ¬ t' < v.2 + span := by omega
        simp [Option.filter, w, this]
  | some n =>
    refine ⟨rfl, nodup_tput (live_nodup s.nr span t) _ _, nodup_tput s.nl _ _, fun t' m h' => ?_⟩
    dsimp only
    rw [tlook_tput, tlook_tput]
    by_cases z : m = n
    · simp [z]
    · simp only [z, if_false]
      rw [tlook_live s.nr, ← s.eq t' m (by omega)]
      unfold lv
      cases tlook R m with
      | none => rfl
      | some v =>
        by_cases w : t < v.2 + span
        · simp [Option.filter, w]
        · have : ¬ t' < v.2 + span := by omega
          simp [Option.filter, w, this]
/-- asks in order -/
def Asc : Int → List (Int × Int) → Prop
  | _, [] => True
  | t, a :: l => t ≤ a.1 ∧ Asc a.1 l
theorem run_same (size span : Int) : ∀ (l : List (Int × Int)) (t0 : Int) (R L : Tab), Sim span t0 R L → Asc t0 l → (runA size span R l).1 = (runL size span L l).1
  | [], _, _, _, _, _ => rfl
  | a :: l, t0, R, L, s, h => by
    obtain ⟨e, s'⟩ := s.step size a.2 h.1
    simp only [runA, runL]
    rw [e, run_same size span l a.1 _ _ s' h.2]
theorem sim_nil (span t0 : Int) : Sim span t0 [] [] := ⟨by simp [keys], by simp [keys], fun _ _ _ => rfl⟩
theorem run_eq {size span t0 : Int} {l : List (Int × Int)} (h : Asc t0 l) : (runA size span [] l).1 = (runL size span [] l).1 := run_same size span l t0 [] [] (sim_nil span t0) h
theorem Asc.le {t t' : Int} (h : t' ≤ t) : ∀ {l : List (Int × Int)}, Asc t l → Asc t' l
  | [], _ => trivial
  | a :: l, ⟨h1, h2⟩ => ⟨by omega, h2⟩
theorem Asc.filter {p : Int × Int → Bool} : ∀ {l : List (Int × Int)} {t : Int}, Asc t l → Asc t (l.filter p)
  | [], _, _ => trivial
  | a :: l, t, ⟨h1, h2⟩ => by
    rw [List.filter_cons]
    split
    · exact ⟨h1, Asc.filter h2⟩
    · exact (Asc.filter h2).le h1
/-- the marks put one by one, as holders does, are the law's table -/
def putM : Tab → List (Option Int × Int × Int) → Tab
  | r, [] => r
  | r, (none, _) :: l => putM r l
  | r, (some m, a) :: l => putM (tput r m (a.2, a.1)) l
theorem put_run (size span : Int) : ∀ (l : List (Int × Int)) (L : Tab), putM L ((runL size span L l).1.zip l) = (runL size span L l).2
  | [], L => rfl
  | a :: l, L => by
    simp only [runL, List.zip_cons_cons]
    cases q : pickM (ownL span a.1 a.2 L) (freeL size span a.1 L) with
    | none =>
      have e : askL size span L a.1 a.2 = (none, L) := by unfold askL; rw [q]
      rw [e]; exact put_run size span l L
    | some m =>
      have e : askL size span L a.1 a.2 = (some m, tput L m (a.2, a.1)) := by unfold askL; rw [q]
      rw [e]; exact put_run size span l _
theorem runA_len (size span : Int) : ∀ (l : List (Int × Int)) (R : Tab), (runA size span R l).1.length = l.length
  | [], _ => rfl
  | a :: l, R => by simp [runA, runA_len size span l]
theorem runL_len (size span : Int) : ∀ (l : List (Int × Int)) (R : Tab), (runL size span R l).1.length = l.length
  | [], _ => rfl
  | a :: l, R => by simp [runL, runL_len size span l]
theorem askP_len (size span : Int) (R : Tab) (t k : Int) : (askP size span R t k).2.length ≤ R.length + 1 := by
  unfold askP
  have := live_len R span t
  dsimp only
  split
  · dsimp only; omega
  · have := tput_len (liveT span t R) ‹_› (k, t); dsimp only; omega
theorem askP_nd (size span : Int) {R : Tab} (nd : (keys R).Nodup) (t k : Int) : (keys (askP size span R t k).2).Nodup := by
  unfold askP
  dsimp only
  split
  · exact live_nodup nd span t
  · exact nodup_tput (live_nodup nd span t) _ _
theorem askL_len (size span : Int) (R : Tab) (t k : Int) : (askL size span R t k).2.length ≤ R.length + 1 := by
  unfold askL
  split
  · dsimp only; omega
  · have := tput_len R ‹_› (k, t); dsimp only; omega
theorem askL_nd (size span : Int) {R : Tab} (nd : (keys R).Nodup) (t k : Int) : (keys (askL size span R t k).2).Nodup := by
  unfold askL
  split
  · exact nd
  · exact nodup_tput nd _ _
end Ev

set_option Elab.async false
set_option linter.all false
set_option maxRecDepth 100000
set_option maxHeartbeats 1000000
/-! ## lending: marks_of, lent, holders -/
namespace Ev
open PySem L2 Pf
theorem desk_nr (size span : Int) (R : Tab) : nr (desk size span R) = true := by
  have : ∀ l : Tab, nrp (l.map ent) = true := by
    intro l
    induction l with
    | nil => rfl
    | cons p l ih => simp [nrp, ent, nr, dv, nrs, ih]
  simp [desk, nr, nrf, dRow, this]
theorem nrs_opt : ∀ l : List (Option Int), nrs (l.map dO) = true
  | [] => rfl
  | none :: l => by simp [nrs, nr, dO, nrs_opt l]
  | some a :: l => by simp [nrs, nr, dO, nrs_opt l]
theorem nrs_dv (l : List (Int × Int)) : nrs (l.map dv) = true := nrs_map dv (fun _ => rfl) l
theorem lc_asks (size span c l : Int) (h0 : 0 ≤ size) (h1 : size ≤ 1000) (d3 : D) : ∀ (xs : List (Int × Int)) (R : Tab), (keys R).Nodup → R.length + xs.length < 60 →
    lcGo (.tu [.n 4, .n 5]) (semT none) (Xp.mc 6 "ask" F_Desk_ask (Xp.v 3) [(Xp.v 4), (Xp.v 5)]).sem [.pl (.int c), .pl (.int l), .pl d3, .pl (.ref 0), .un, .un] (xs.map dv) [desk size span R] = .ok ((runA size span R xs).1.map dO) [desk size span (runA size span R xs).2]
  | [], R, _, _ => rfl
  | a :: xs, R, nd, hl => by
    simp only [List.length_cons] at hl
    have e1 := at_ask size span R a.1 a.2 nd (by omega) h0 h1
    have hn := askP_nd size span nd a.1 a.2
    have hn2 := askP_len size span R a.1 a.2
    have ih := lc_asks size span c l h0 h1 d3 xs _ hn (by omega)
    have p1 : Tg.put (.tu [.n 4, .n 5]) (dv a) [.pl (.int c), .pl (.int l), .pl d3, .pl (.ref 0), .un, .un] = some [.pl (.int c), .pl (.int l), .pl d3, .pl (.ref 0), .pl (.int a.1), .pl (.int a.2)] := rfl
    have p2 : (Xp.mc 6 "ask" F_Desk_ask (Xp.v 3) [(Xp.v 4), (Xp.v 5)]).sem [.pl (.int c), .pl (.int l), .pl d3, .pl (.ref 0), .pl (.int a.1), .pl (.int a.2)] [desk size span R] = .ok (dO (askP size span R a.1 a.2).1) [desk size span (askP size span R a.1 a.2).2] := by
      rw [← e1]
      rfl
    simp only [List.map_cons, lcGo, p1, semT, noX_ok, bind_ok, if_true, p2, ih, runA]
theorem at_marks (c l : Int) (h0 : 0 ≤ c) (h1 : c ≤ 1000) (xs : List (Int × Int)) (hl : xs.length < 60) (d : D) (hd : items d = some (xs.map dv)) (hn : nr d = true) (h : Hh) :
    F_marks_of [.int c, .int l, d] h = .ok (.lst ((runA c l [] xs).1.map dO)) h := by
  refine pure_of (h' := [desk c l (runA c l [] xs).2]) (by simp [nrs, nr, hn]) rfl (by simp [nr, nrs_opt]) ?_
  have key := lc_asks c l c l h0 h1 d xs [] (by simp [keys]) (by simpa using hl)
  have e1 := at_init c l
  have hl2 : xs.length ≤ 16777216 := by omega
  unfold ir_marks_of
  simp [startR, semA, mkH, e1, Tg.put, lcSem, hd, line, hl2, wipeR, key]
theorem at_check_asks (xs : List (Int × Int)) (ha : Asc 0 xs) (hl : xs.length ≤ 40) (hb : ∀ a ∈ xs, a.1 ≤ 1000000000000000 ∧ 0 ≤ a.2 ∧ a.2 ≤ 99) (h : Hh) : F_check_asks [.tup (xs.map dv)] h = .ok .non h := by
  refine pure_of (h' := []) (by simp [nrs, nr, nrs_dv]) rfl rfl ?_
  have st : ∀ (n : Nat) (a : Int × Int), xs[n]? = some a → 0 ≤ a.1 ∧ (0 < n → ∃ b, xs[n - 1]? = some b ∧ b.1 ≤ a.1) := by
    clear hl hb
    have gen : ∀ (l : List (Int × Int)) (t : Int), 0 ≤ t → Asc t l → ∀ (n : Nat) (a : Int × Int), l[n]? = some a → t ≤ a.1 ∧ (0 < n → ∃ b, l[n - 1]? = some b ∧ b.1 ≤ a.1) := by
      intro l
      induction l with
      | nil => intro t _ _ n a e; simp at e
      | cons x l ih =>
        intro t ht hA n a e
        cases n with
        | zero => simp at e; subst e; exact ⟨hA.1, by omega⟩
        | succ n =>
          have := ih x.1 (by have := hA.1; omega) hA.2 n a (by simpa using e)
          refine ⟨by have := hA.1; omega, fun _ => ?_⟩
          cases n with
          | zero => exact ⟨x, by simp, this.1⟩
          | succ n => obtain ⟨b, h1, h2⟩ := this.2 (by omega); exact ⟨b, by simpa using h1, h2⟩
    intro n a e
    exact gen xs 0 (by omega) ha n a e
  have loop : ∀ (l : List (Int × Int)) (k : Nat), xs.drop k = l → forGo (.tu [(.n 1), (.n 2)]) (semSs [.s (Sm.ife (Xt.or (Xt.cmp .Eq (Xo.v 1) ((Xp.g "MAX_ASKS" (.int 40))).o) (Xt.or (Xt.not (Xt.e ((Xp.call "is_ask" F_is_ask [(Xp.v 2)])).o)) (Xt.and (Xt.cmp .Gt (Xo.v 1) ((Xp.c (.int 0))).o) (Xt.cmp .Lt ((Xp.ix (Xo.v 2) ((Xp.c (.int 0))).o)).o ((Xp.ix ((Xp.ix (Xo.v 0) ((Xp.bin .Sub (Xo.v 1) ((Xp.c (.int 1))).o)).o)).o ((Xp.c (.int 0))).o)).o))))
      [.s (Sm.nev)]
      []), .kill [1, 2]]) (enumD k (l.map dv)) [.pl (.tup (xs.map dv)), .un, .un] [] = .nx [.pl (.tup (xs.map dv)), .un, .un] [] := by
    intro l
    induction l with
    | nil => intro k _; rfl
    | cons a l ih =>
      intro k e
      have ek : xs[k]? = some a := by
        have := congrArg (·[0]?) e
        simpa using this
      have hk : k < xs.length := (List.getElem?_eq_some_iff.mp ek).1
      have e2 : xs.drop (k + 1) = l := by
        have := congrArg (List.drop 1) e
        simpa [List.drop_drop, Nat.add_comm] using this
      have ih := ih (k + 1) e2
      obtain ⟨s1, s2⟩ := st k a ek
      obtain ⟨b1, b2, b3⟩ := hb a (List.mem_iff_getElem?.mpr ⟨k, ek⟩)
      have q1 := at_is_ask a [] s1 b1 b2 b3
      have hk40 : ¬ ((k : Int) = 40) := by omega
      have body : ∀ bd, forGo (.tu [(.n 1), (.n 2)]) bd (enumD k ((a :: l).map dv)) [.pl (.tup (xs.map dv)), .un, .un] [] = match bd [.pl (.tup (xs.map dv)), .pl (.int k), .pl (dv a)] [] with
        | .nx r3 h3 => forGo (.tu [(.n 1), (.n 2)]) bd (enumD (k + 1) (l.map dv)) r3 h3
        | .ct r3 h3 => forGo (.tu [(.n 1), (.n 2)]) bd (enumD (k + 1) (l.map dv)) r3 h3
        | .bk r3 h3 => .nx r3 h3
        | o => o := fun bd => rfl
      rw [body]
      by_cases hk0 : k = 0
      · subst hk0
        simp only [ss_s, ms_ife, mt_or, mt_cmp, mt_not, mt_e, mt_and]
        simp [on1, on2, cmp_eq_int, semA, q1, truE, killR] at ih ⊢
        exact ih
      · obtain ⟨b, hb1, hb2⟩ := s2 (by omega)
        have hx : atI (xs.map dv) ((k : Int) - 1) = some (dv b) := by
          rw [show (k : Int) - 1 = ((k - 1 : Nat) : Int) by omega, atI_nat, List.getElem?_map, hb1]; rfl
        have hkp : 0 < (k : Int) := by omega
        have hlt : ¬ a.1 < b.1 := by omega
        have q2 : ixE (dv a) (.int 0) = some (.int a.1) := by simp [ixE, dv, items]
        have q3 : ixE (dv b) (.int 0) = some (.int b.1) := by simp [ixE, dv, items]
        have v1 : ∀ h x, vw h (dv x) = some (dv x) := fun _ _ => rfl
        have q4 : ixE (.tup (xs.map dv)) (.int ((k : Int) - 1)) = some (dv b) := by simp [ixE, items, hx]
        simp only [ss_s, ms_ife, mt_or, mt_cmp, mt_not, mt_e, mt_and]
        simp [on1, on2, cmp_eq_int, semA, q1, truE, killR, hk40, hk0, v1, q2, q3, q4, binE, hlt] at ih ⊢
        exact ih
  have := loop xs 0 rfl
  unfold ir_check_asks
  simp only [startR, List.map_cons, List.map_nil, List.length_cons, List.length_nil, List.cons_append, List.nil_append, ss_s, ms_for, mi_en]
  show outR ((forGo _ _ (enumD 0 (xs.map dv)) [.pl (.tup (xs.map dv)), .un, .un] []).then _) = _
  rw [this]; rfl
structure OkA (xs : List (Int × Int)) : Prop where
  asc : Asc 0 xs
  len : xs.length ≤ 40
  rng : ∀ a ∈ xs, a.1 ≤ 1000000000000000 ∧ 0 ≤ a.2 ∧ a.2 ≤ 99
theorem at_lent (c l : Int) (h1 : 1 ≤ c) (h2 : c ≤ 9) (h3 : 1 ≤ l) (h4 : l ≤ 1000000000) (xs : List (Int × Int)) (ok : OkA xs) (h : Hh) : F_lent [.int c, .int l, .tup (xs.map dv)] h = .ok (.lst ((runA c l [] xs).1.map dO)) h := by
  refine pure_of (h' := []) (by simp [nrs, nr, nrs_dv]) rfl (by simp [nr, nrs_opt]) ?_
  have e1 := at_check_count c 9 [] h1 h2
  have e2 := at_check_count l 1000000000 [] h3 h4
  have e3 := at_check_asks xs ok.asc ok.len ok.rng []
  have e4 := at_marks c l (by omega) (by omega) xs (by have := ok.len; omega) (.tup (xs.map dv)) rfl (by simp [nr, nrs_dv]) []
  unfold ir_lent
  simp [startR, semA, e1, e2, e3, e4]
/-- what holders tells -/
def dueL (l t : Int) (L : Tab) : List (Int × Int) := (thereL l t L).map fun m => (m, mk0 L m)
theorem zip2_opt : ∀ (ms : List (Option Int)) (ys : List (Int × Int)), zip2D (ms.map dO) (ys.map dv) = (ms.zip ys).map fun x => D.tup [dO x.1, dv x.2]
  | [], _ => by simp [zip2D]
  | _ :: _, [] => by simp [zip2D]
  | a :: ms, b :: ys => by simp [zip2D, zip2_opt ms ys]
theorem putM_len : ∀ (zs : List (Option Int × Int × Int)) (R : Tab), (putM R zs).length ≤ R.length + zs.length
  | [], R => by simp [putM]
  | (none, a) :: zs, R => by have := putM_len zs R; simp only [putM, List.length_cons]; omega
  | (some m, a) :: zs, R => by
    have h1 := putM_len zs (tput R m (a.2, a.1))
    have h2 := tput_len R m (a.2, a.1)
    simp only [putM, List.length_cons]; omega
def hoB : Rho → Hh → Out := semSs [.s (Sm.ife (Xt.cmp .IsNot (Xo.v 6) ((Xp.c .non)).o)
      [.s (Sm.dput 5 (Xp.v 6) (Xp.tup [(Xp.v 8), (Xp.v 7)]))]
      []), .kill [7, 8]]
theorem ho_loop (a b c d e : Sl) : ∀ (zs : List (Option Int × Int × Int)) (R : Tab) (s : Sl), R.length + zs.length < 1000 → ∃ s', forGo (.tu [(.n 6), (.tu [(.n 7), (.n 8)])]) hoB (zs.map fun x => D.tup [dO x.1, dv x.2]) [a, b, c, d, e, .ow (dRow R), s, .un, .un] [] = .nx [a, b, c, d, e, .ow (dRow (putM R zs)), s', .un, .un] []
  | [], R, s, _ => ⟨s, rfl⟩
  | (none, q) :: zs, R, s, hl => by
    simp only [List.length_cons] at hl
    obtain ⟨s', ih⟩ := ho_loop a b c d e zs R (.pl .non) (by omega)
    refine ⟨s', ?_⟩
    have e1 : hoB [a, b, c, d, e, .ow (dRow R), .pl .non, .pl (.int q.1), .pl (.int q.2)] [] = .nx [a, b, c, d, e, .ow (dRow R), .pl .non, .un, .un] [] := by
      simp [hoB, on1, on2, isNonD, killR]
    have e2 : Tg.put (.tu [(.n 6), (.tu [(.n 7), (.n 8)])]) (.tup [dO none, dv q]) [a, b, c, d, e, .ow (dRow R), s, .un, .un] = some [a, b, c, d, e, .ow (dRow R), .pl .non, .pl (.int q.1), .pl (.int q.2)] := rfl
    simp only [List.map_cons, forGo, e2, e1, putM]
    exact ih
  | (some m, q) :: zs, R, s, hl => by
    simp only [List.length_cons] at hl
    have h2 := tput_len R m (q.2, q.1)
    obtain ⟨s', ih⟩ := ho_loop a b c d e zs (tput R m (q.2, q.1)) (.pl (.int m)) (by omega)
    refine ⟨s', ?_⟩
    have hl2 : R.length < 16777216 := by omega
    have k4 : dPut (R.map ent) (.int m) (.tup [.int q.2, .int q.1]) = (tput R m (q.2, q.1)).map ent := dPut_ent R m (q.2, q.1)
    have e1 : hoB [a, b, c, d, e, .ow (dRow R), .pl (.int m), .pl (.int q.1), .pl (.int q.2)] [] = .nx [a, b, c, d, e, .ow (dRow (tput R m (q.2, q.1))), .pl (.int m), .un, .un] [] := by
      simp [hoB, on1, on2, isNonD, killR, dRow, semA, line, isK, hl2, k4]
    have e2 : Tg.put (.tu [(.n 6), (.tu [(.n 7), (.n 8)])]) (.tup [dO (some m), dv q]) [a, b, c, d, e, .ow (dRow R), s, .un, .un] = some [a, b, c, d, e, .ow (dRow R), .pl (.int m), .pl (.int q.1), .pl (.int q.2)] := rfl
    simp only [List.map_cons, forGo, e2, e1, putM]
    exact ih
def Nds (L : Tab) : Prop := (keys L).Nodup
theorem runL_nd (size span : Int) : ∀ (l : List (Int × Int)) (L : Tab), (keys L).Nodup → (keys (runL size span L l).2).Nodup
  | [], L, h => h
  | a :: l, L, h => runL_nd size span l _ (askL_nd size span h a.1 a.2)
theorem runL_rows (size span : Int) : ∀ (l : List (Int × Int)) (L : Tab), (runL size span L l).2.length ≤ L.length + l.length
  | [], L => by simp [runL]
  | a :: l, L => by
    have h1 := runL_rows size span l (askL size span L a.1 a.2).2
    have h2 := askL_len size span L a.1 a.2
    simp only [runL, List.length_cons]; omega
/-- what is lent at a time, out of a table -/
theorem lc_due (L : Tab) (l t : Int) (r : Rho) (h : Hh) (tst : Xt) (el : Xp) (i : Nat)
    (ht : ∀ m v, tlook L m = some v → tst.sem (r.set i (.pl (.int m))) h = .ok (decide (t < v.2 + l)) h)
    (he : ∀ m v, tlook L m = some v → el.sem (r.set i (.pl (.int m))) h = .ok (dv (m, v.1)) h) :
    lcGo (.n i) (semT (some tst)) el.sem r ((srtI (keys L)).map D.int) h = .ok ((dueL l t L).map dv) h := by
  have := lc_filter (t := .n i) (b := semT (some tst)) (e := el.sem) (r := r) (h := h) (f := D.int) (g := fun m => dv (m, mk0 L m)) (p := fun m => decide (t < mk1 L m + l)) (srtI (keys L)) fun m hm => by
    obtain ⟨v, hv⟩ := tlook_some (mem_srt.mp hm)
    refine ⟨_, rfl, ?_, ?_⟩
    · rw [mk1_eq hv]; exact ht m v hv
    · rw [mk0_eq hv]; exact he m v hv
  rw [this]
  simp [dueL, thereL, List.map_map, Function.comp_def]
theorem at_holders (c l t : Int) (h1 : 1 ≤ c) (h2 : c ≤ 9) (h3 : 1 ≤ l) (h4 : l ≤ 1000000000) (ht0 : 0 ≤ t) (ht1 : t ≤ 2000000000000000) (xs : List (Int × Int)) (ok : OkA xs) (h : Hh) :
    F_holders [.int c, .int l, .tup (xs.map dv), .int t] h = .ok (.lst ((dueL l t (runL c l [] (xs.filter fun a => decide (a.1 ≤ t))).2).map dv)) h := by
  have asc : Asc 0 (xs.filter fun a => decide (a.1 ≤ t)) := ok.asc.filter
  have e1 := at_check_count c 9 [] h1 h2
  have e2 := at_check_count l 1000000000 [] h3 h4
  have e3 := at_check_asks xs ok.asc ok.len ok.rng []
  have hl0 := ok.len
  have hl1 : (xs.filter fun a => decide (a.1 ≤ t)).length ≤ 40 := Nat.le_trans (List.length_filter_le _ _) hl0
  have k1 := lc_filter (t := .tu [.n 7, .n 8]) (b := semT (some (Xt.cmp .LtE (Xo.v 7) (Xo.v 3)))) (e := (Xp.tup [(Xp.v 7), (Xp.v 8)]).sem) (r := [.pl (.int c), .pl (.int l), .pl (.tup (xs.map dv)), .pl (.int t), .un, .un, .un, .un, .un]) (h := []) (f := dv) (g := dv) (p := fun a => decide (a.1 ≤ t)) xs fun x _ => ⟨_, rfl, by simp [semT, on2], by simp [semA, line, dv]⟩
  generalize (xs.filter fun a => decide (a.1 ≤ t)) = ys at *
  have e4 := at_marks c l (by omega) (by omega) ys (by omega) (.lst (ys.map dv)) rfl (by simp [nr, nrs_dv]) []
  rw [run_eq asc] at e4
  have hz : ((runL c l [] ys).1.zip ys).length ≤ 40 := by rw [List.length_zip, runL_len]; omega
  obtain ⟨s', e5⟩ := ho_loop (.pl (.int c)) (.pl (.int l)) (.pl (.tup (xs.map dv))) (.pl (.int t)) (.pl (.lst (ys.map dv))) ((runL c l [] ys).1.zip ys) [] .un (by simp only [List.length_nil]; omega)
  rw [put_run] at e5
  have hr := runL_rows c l ys []
  generalize hL : (runL c l [] ys).2 = L at *
  simp only [List.length_nil] at hr
  have hs : ∀ h, on1 sortDE h (dRow L) = some (srtI (keys L)) := fun h => sort_ent L (by omega) h
  have k2 := lc_due L l t [.pl (.int c), .pl (.int l), .pl (.tup (xs.map dv)), .pl (.int t), .pl (.lst (ys.map dv)), .ow (dRow L), .un, .un, .un] [] (Xt.cmp .Lt (Xo.v 3) ((Xp.bin .Add ((Xp.ix ((Xp.dget (Xo.v 5) (Xp.v 6))).o ((Xp.c (.int 1))).o)).o (Xo.v 1))).o) (Xp.tup [(Xp.v 6), (Xp.ix ((Xp.dget (Xo.v 5) (Xp.v 6))).o ((Xp.c (.int 0))).o)]) 6
    (fun m v hv => by
      have := dget_ent L m []
      rw [hv] at this
      simp [this, on2, dv, ixE, items, binE])
    (fun m v hv => by
      have := dget_ent L m []
      rw [hv] at this
      simp [this, on2, dv, ixE, items, binE, semA, line])
  refine pure_of (h' := []) (by simp [nrs, nr, nrs_dv]) rfl (by simp [nr, nrs_dv]) ?_
  have hl2 : xs.length ≤ 16777216 := by omega
  have hl3 : (srtI (keys L)).length ≤ 16777216 := by simp [srtI, keys]; omega
  have en := at_is_number t 0 2000000000000000 []
  unfold hoB at e5
  unfold ir_holders
  simp [startR, semA, e1, e2, e3, on2, binE, mulOk, en, on1, truE, ht0, ht1, lcSem, items, line, hl2, wipeR, k1, e4, zip2E, zip2_opt]
  have dr : D.dct [] = dRow [] := rfl
  rw [dr, e5]
  simp [lcSem, line, hs, items, hl3, wipeR, k2]
end Ev

set_option Elab.async false
set_option linter.all false
set_option maxRecDepth 100000
set_option maxHeartbeats 1000000
/-! ## Dicts whose keys are nested tuples -/
namespace Pf
open PySem L2
section
variable {X : Cx} {G : Gx} {M : Mp} {H : Hp} {σ : St} {pins : List (Addr × Obj)} {s : Shared}
/-- flat data is a key in the heap -/
theorem nested_of (I : Inv X pins σ H s) (hK : G.K = X.K) : ∀ (n : Nat) (d : D) (v : V) (u : Value), kOk n d = true → RV G M H d v → RelV v u → NestedIs s.heap (nkey d) u ∧ (nkey d).depth ≤ n := by
  intro n
  induction n with
  | zero =>
    intro d v u hk rv ru
    cases d <;> simp only [kOk, Bool.false_eq_true] at hk
    · cases rv; cases (show u = Value.none from ru); exact ⟨.none, Nat.zero_le _⟩
    · cases rv; rename_i b; cases (show u = Value.bool b from ru); exact ⟨.bool rfl, Nat.zero_le _⟩
    · cases rv; obtain ⟨t, rfl⟩ := ru; exact ⟨.int _ _, Nat.zero_le _⟩
    · cases rv; obtain ⟨t, rfl⟩ := ru; exact ⟨.text _ _, Nat.zero_le _⟩
  | succ n ih =>
    intro d v u hk rv ru
    cases d <;> simp only [kOk, Bool.false_eq_true] at hk
    · cases rv; cases (show u = Value.none from ru); exact ⟨.none, Nat.zero_le _⟩
    · cases rv; rename_i b; cases (show u = Value.bool b from ru); exact ⟨.bool rfl, Nat.zero_le _⟩
    · cases rv; obtain ⟨t, rfl⟩ := ru; exact ⟨.int _ _, Nat.zero_le _⟩
    · cases rv; obtain ⟨t, rfl⟩ := ru; exact ⟨.text _ _, Nat.zero_le _⟩
    · rename_i l
      cases rv with
      | tup h r =>
        rename_i a xs
        cases (show u = Value.ref a from ru)
        obtain ⟨its, rv, ⟨o, ho, hc, m, hd⟩, _⟩ := I.tuple (h.sq hK)
        have all : ∀ (l : List D) (xs : List V) (us : List Value), l.all (kOk n) = true → RVs G M H l xs → Vals xs us → NestedAll s.heap (nkeys l) us ∧ NestedKey.depthAll (nkeys l) ≤ n := by
          intro l
          induction l with
          | nil => intro xs us _ r rv; cases r; cases rv; exact ⟨.nil, Nat.zero_le _⟩
          | cons d l ihl =>
            intro xs us hk r rv
            cases r with
            | cons r1 r2 =>
              cases rv with
              | cons v1 v2 =>
                simp only [List.all_cons, Bool.and_eq_true] at hk
                obtain ⟨a1, a2⟩ := ih d _ _ hk.1 r1 v1
                obtain ⟨b1, b2⟩ := ihl _ _ hk.2 r2 v2
                exact ⟨.cons a1 b1, by simp only [nkeys, NestedKey.depthAll]; omega⟩
        obtain ⟨a1, a2⟩ := all l xs its hk r rv
        exact ⟨.tup ho hc hd a1, by simp only [nkey, NestedKey.depth]; omega⟩
theorem isTp_ref {d : D} {v : V} (h : isTp d = true) (r : RV G M H d v) : ∃ a, v = .ref a := by
  cases d <;> simp [isTp] at h
  cases r; exact ⟨_, rfl⟩
theorem nk_is (I : Inv X pins σ H s) (hK : G.K = X.K) {d : D} {a : Addr} (hk : nK d = true) (rv : RV G M H d (.ref a)) : (nestedKind X.prog X.w).is s.heap (nkey d) a := by
  unfold nK at hk
  rw [Bool.and_eq_true] at hk
  exact nested_of I hK 8 d _ _ hk.2 rv rfl
/-- the entries with their keys' places -/
inductive RXn (G : Gx) (M : Mp) (H : Hp) : List (D × D) → List (NestedKey × Addr × Value) → Prop
  | nil : RXn G M H [] []
  | cons {k d : D} {a : Addr} {v : V} {u : Value} {l : List (D × D)} {xs : List (NestedKey × Addr × Value)} : RV G M H k (.ref a) → nK k = true → RV G M H d v → RelV v u → RXn G M H l xs → RXn G M H ((k, d) :: l) ((nkey k, a, u) :: xs)
def HashL (t : Tb) : Prop := ∀ d, t.G.hash d = (nkey d).hash t.w
theorem RPs.to {P : Program} {w : World} (hh : ∀ d, G.hash d = (nkey d).hash w) : ∀ {l : List (D × D)} {es : List DictEntry}, RPs G M H l es → ∃ xs, RXn G M H l xs ∧ es = xs.map (entryOfKey (nestedKind P w))
  | _, _, .nil => ⟨[], .nil, rfl⟩
  | _, _, .cons (k := k) (e := e) rk q rd q2 g t => by
    obtain ⟨xs, r, e2⟩ := RPs.to (P := P) hh t
    obtain ⟨a, rfl⟩ := isTp_ref (by have := g.2; unfold nK at this; rw [Bool.and_eq_true] at this; exact this.1) rk
    refine ⟨(nkey k, a, e.val) :: xs, .cons rk g.2 rd q2 r, ?_⟩
    have e1 : e.key = .ref a := q
    obtain ⟨eh, ek, ev⟩ := e
    simp only at e1
    subst e1
    rw [List.map_cons, ← e2]
    congr 1
    unfold entryOfKey
    have := g.1
    simp only at this
    rw [this, hh]; rfl
theorem RXn.to {P : Program} {w : World} (hh : ∀ d, G.hash d = (nkey d).hash w) : ∀ {l : List (D × D)} {xs : List (NestedKey × Addr × Value)}, RXn G M H l xs → RPs G M H l (xs.map (entryOfKey (nestedKind P w)))
  | _, _, .nil => .nil
  | _, _, .cons rk hk rd q t => .cons rk rfl rd q ⟨by rw [hh]; rfl, hk⟩ (RXn.to hh t)
theorem RXn.keep (gk : Gk G) {M' : Mp} {H' : Hp} (e : Keep M H M' H') : ∀ {l : List (D × D)} {xs : List (NestedKey × Addr × Value)}, RXn G M H l xs → RXn G M' H' l xs
  | _, _, .nil => .nil
  | _, _, .cons rk hk rd q t => .cons (rk.keep gk e) hk (rd.keep gk e) q (RXn.keep gk e t)
theorem RXn.keys : ∀ {l : List (D × D)} {xs : List (NestedKey × Addr × Value)}, RXn G M H l xs → xs.map (·.1) = l.map fun p => nkey p.1
  | _, _, .nil => rfl
  | _, _, .cons rk hk rd q t => by simp [RXn.keys t]
theorem RXn.length {l : List (D × D)} {xs : List (NestedKey × Addr × Value)} (r : RXn G M H l xs) : xs.length = l.length := by
  have := congrArg List.length r.keys
  simpa using this
theorem RXn.is (I : Inv X pins σ H s) (hK : G.K = X.K) : ∀ {l : List (D × D)} {xs : List (NestedKey × Addr × Value)}, RXn G M H l xs → ∀ x ∈ xs, (nestedKind X.prog X.w).is s.heap x.1 x.2.1
  | _, _, .nil => fun x hx => nomatch hx
  | _, _, .cons rk hk rd q t => fun x hx => by
    rcases List.mem_cons.mp hx with rfl | hx
    · exact nk_is I hK hk rk
    · exact RXn.is I hK t x hx
def nLook (l : List (D × D)) (k : D) : Option D := (l.find? fun p => decide (nkey p.1 = nkey k)).map (·.2)
def nPut (l : List (D × D)) (k d : D) : List (D × D) := if (nLook l k).isSome then l.map fun p => if nkey p.1 = nkey k then (p.1, d) else p else l ++ [(k, d)]
theorem RXn.look (k : D) : ∀ {l : List (D × D)} {xs : List (NestedKey × Addr × Value)}, RXn G M H l xs → (nLook l k = none ∧ atKey xs (nkey k) = none) ∨ ∃ d v p, nLook l k = some d ∧ atKey xs (nkey k) = some p ∧ RV G M H d v ∧ RelV v p.2
  | _, _, .nil => .inl ⟨rfl, rfl⟩
  | _, _, .cons (k := k') rk hk rd q t => by
    unfold nLook atKey
    rw [List.find?_cons, List.find?_cons]
    by_cases e : nkey k' = nkey k
    · simp only [e, decide_true]
      exact .inr ⟨_, _, _, rfl, rfl, rd, q⟩
    · simp only [e, decide_false]
      exact RXn.look k t
theorem RXn.has (k : D) {l : List (D × D)} {xs : List (NestedKey × Addr × Value)} (r : RXn G M H l xs) : (nLook l k).isSome = (atKey xs (nkey k)).isSome := by
  rcases r.look k with ⟨a, b⟩ | ⟨_, _, _, a, b, _⟩ <;> rw [a, b] <;> rfl
theorem RXn.repl {k d : D} {v : V} {u : Value} (rd : RV G M H d v) (q : RelV v u) : ∀ {l : List (D × D)} {xs : List (NestedKey × Addr × Value)}, RXn G M H l xs → RXn G M H (l.map fun p => if nkey p.1 = nkey k then (p.1, d) else p) (xs.map (putAt (nkey k) u))
  | _, _, .nil => .nil
  | _, _, .cons (k := k') rk hk rd' q' t => by
    simp only [List.map_cons, putAt]
    by_cases e : nkey k' = nkey k
    · simp only [e, if_true]
      rw [← e]
      exact .cons rk hk rd q (by rw [e]; exact RXn.repl rd q t)
    · simp only [e, if_false]
      exact .cons rk hk rd' q' (RXn.repl rd q t)
theorem RXn.app : ∀ {l m : List (D × D)} {xs ys : List (NestedKey × Addr × Value)}, RXn G M H l xs → RXn G M H m ys → RXn G M H (l ++ m) (xs ++ ys)
  | _, _, _, _, .nil, s => s
  | _, _, _, _, .cons rk hk rd q t, s => .cons rk hk rd q (RXn.app t s)
theorem RXn.put {k d : D} {a : Addr} {v : V} {u : Value} (rk : RV G M H k (.ref a)) (hk : nK k = true) (rd : RV G M H d v) (q : RelV v u) {l : List (D × D)} {xs : List (NestedKey × Addr × Value)} (r : RXn G M H l xs) : RXn G M H (nPut l k d) (storedH xs (nkey k) a u) := by
  unfold nPut storedH
  rw [r.has k]
  split
  · exact r.repl rd q
  · exact r.app (.cons rk hk rd q .nil)
theorem nPut_len (l : List (D × D)) (k d : D) : (nPut l k d).length ≤ l.length + 1 := by
  unfold nPut
  split <;> simp
/-- a dict's object -/
theorem dic_ok {P : Program} {w : World} {a : Addr} {xs : List (NestedKey × Addr × Value)} {h : Heap} {ks : List NestedKey} (d : h.DictOfH (nestedKind P w) a xs) (e : xs.map (·.1) = ks) : ∃ ep, ∀ H : Hp, ObjOk P w H h a (DicO a (xs.map (entryOfKey (nestedKind P w))) ep ks) := by
  obtain ⟨o, es, ep, ho, hc, hd, he, _, hn⟩ := d
  refine ⟨ep, fun H => ⟨⟨by rw [← e]; exact hn, o, ho, hc, ?_⟩, ⟨o, ho⟩, fun h1 h2 ⟨n, o, q, r⟩ k => ⟨n, o, k _ q, r⟩⟩⟩
  rw [hd, ← he]
theorem dic_at (I : Inv X pins σ H s) (hK : G.K = X.K) {a : Addr} {l : List (D × D)} {xs : List (NestedKey × Addr × Value)} {ep : Nat} (e : H a = some (DicO a (xs.map (entryOfKey (nestedKind X.prog X.w))) ep (l.map fun p => nkey p.1))) (r : RXn G M H l xs) : s.heap.DictOfH (nestedKind X.prog X.w) a xs := by
  obtain ⟨⟨hn, o, ho, hc, hd⟩, _, _⟩ := I.hok a _ e
  exact ⟨o, _, ep, ho, hc, hd, rfl, r.is I hK, by rw [r.keys]; exact hn⟩
end
end Pf

set_option Elab.async false
set_option linter.all false
set_option maxRecDepth 100000
set_option maxHeartbeats 1000000
/-! ## Dicts whose keys are nested tuples: reading, storing -/
namespace Pf
open PySem L2
section
variable {X : Cx} {G : Gx} {M : Mp} {H : Hp} {σ : St} {pins : List (Addr × Obj)} {s : Shared} {a : Addr} {l : List (D × D)}
theorem dic_open (I : Inv X pins σ H s) (hK : G.K = X.K) (hh : ∀ d, G.hash d = (nkey d).hash X.w) (ro : RO G M H a (.dcn l)) :
    ∃ xs ep, RXn G M H l xs ∧ s.heap.DictOfH (nestedKind X.prog X.w) a xs ∧ (a == sysModules) = false ∧ l.length ≤ sizeLine ∧ H a = some (DicO a (xs.map (entryOfKey (nestedKind X.prog X.w))) ep (l.map fun p => nkey p.1)) := by
  cases ro with
  | dcn h m n r =>
    obtain ⟨xs, rx, rfl⟩ := r.to (P := X.prog) hh
    exact ⟨xs, _, rx, dic_at I hK h rx, m, n, h⟩
theorem nroom {k : Nat} {A : Around} {P : Program} {w : World} (r : Room k A) : (nestedKind P w).room A.in1 := by
  have := room65 r
  show A.in1.units + 8 < cLine
  simp only [Around.in1] at *
  omega
def GetOk (X : Cx) (σ : St) (H : Hp) (a : Addr) (y v : V) : Prop := ∀ {pins : List (Addr × Obj)} {s : Shared} {u : Value}, Inv X pins σ H s → RelV y u → s.TypeIs (.ref a) "dict" ∧ ∀ Q : Value → Shared → Prop, (∀ w' s', Inv X pins σ H s' → RelV v w' → Q w' s') → wpAny (model X.prog X.w) X.A (getItem (.ref a) u) Q X.xe s
def InOk (X : Cx) (σ : St) (H : Hp) (o : CmpOp) (y : V) (a : Addr) (b : Bool) : Prop := ∀ {pins : List (Addr × Obj)} {s : Shared} {u : Value}, Inv X pins σ H s → RelV y u → ∀ Q : Value → Shared → Prop, (∀ s', Inv X pins σ H s' → Q (.bool b) s') → wpAny (model X.prog X.w) X.A (compareOp o u (.ref a)) Q X.xe s
def SetOk (X : Cx) (σ : St) (H : Hp) (a : Addr) (y v : V) (N : Hp → Prop) : Prop := ∀ {pins : List (Addr × Obj)} {s : Shared} {u r : Value}, Inv X pins σ H s → RelV y u → RelV v r → ∀ Q : Unit → Shared → Prop, (∀ H' s', N H' → Inv X pins σ H' s' → Q () s') → wpAny (model X.prog X.w) X.A (setItem (.ref a) u r) Q X.xe s
theorem pe_nget {o i : Expr} {td ty : TE} {pos : Pos} (ho : PE X o td) (hi : PE X i ty) (hs : NoSl i) : PE X (.Subscript o i pos) (fun σ H Q => td σ H fun x H1 => ty σ H1 fun y H2 => ∃ a v, x = .ref a ∧ GetOk X σ H2 a y v ∧ Q v H2) := by
  refine ⟨fun pins s σ H Q I h => ?_⟩
  refine subD_of PySem.F.slot_dict_getitem.lookup hs (thn (ho.run pins s σ H _ I h) fun u s1 ⟨x, H1, I1, rx, q1⟩ => thn (hi.run pins s1 σ H1 _ I1 q1) fun iv s2 ⟨y, H2, I2, ry, a, v, ex, g, q2⟩ => ?_)
  subst ex
  obtain rfl : u = Value.ref a := rx
  obtain ⟨g1, g2⟩ := g I2 ry
  exact ⟨g1, g2 _ fun w' s3 I3 rw' => ⟨v, H2, I3, rw', q2⟩⟩
theorem pc_nin {op : CmpOp} {o i : Expr} {td ty : TE} (hi : PE X i ty) (ho : PE X o td) : PC X op i o (fun σ H Q => ty σ H fun y H1 => td σ H1 fun x H2 => ∃ a b, x = .ref a ∧ InOk X σ H2 op y a b ∧ Q (.bl b) H2) := by
  refine ⟨fun pins s σ H Q I h => ?_⟩
  refine thn (hi.run pins s σ H _ I h) fun iv s1 ⟨y, H1, I1, ry, q1⟩ => thn (ho.run pins s1 σ H1 _ I1 q1) fun u s2 ⟨x, H2, I2, rx, a, b, ex, g, q2⟩ => ?_
  subst ex
  obtain rfl : u = Value.ref a := rx
  exact g I2 ry _ fun s3 I3 => ⟨.bl b, H2, I3, rfl, q2⟩
theorem ps_nput {o i value : Expr} {td ty tv : TE} {pos pos' : Pos} (ho : PE X o td) (hi : PE X i ty) (hv : PE X value tv) (hs : swapsWith value (some (.Subscript o i pos')) pos.line X.env = pure false) :
    PS X (.Assign [.Subscript o i pos'] value pos) (fun D σ H => tv σ H fun v H1 => td σ H1 fun x H2 => ty σ H2 fun y H3 => ∃ (a : Addr) (N : Hp → Prop), x = .ref a ∧ SetOk X σ H3 a y v N ∧ ∀ H4, N H4 → D.nx σ H4) := by
  refine ⟨fun pins s σ H D I h => ?_⟩
  refine wpAny_Assign_Subscript (thn (hv.run pins s σ H _ I h) fun r s1 ⟨v, H1, I1, rv, q1⟩ => thn (ho.run pins s1 σ H1 _ I1 q1) fun u s2 ⟨x, H2, I2, rx, q2⟩ => thn (hi.run pins s2 σ H2 _ I2 q2) fun iv s3 ⟨y, H3, I3, ry, a, N, ex, g, q3⟩ => ?_) hs
  subst ex
  obtain rfl : u = Value.ref a := rx
  exact g I3 ry rv _ fun H4 s4 n4 I4 => ⟨σ, H4, I4, q3 H4 n4⟩
theorem nget_ok {k : Nat} (hr : Room k X.A) (hK : G.K = X.K) (hh : ∀ d, G.hash d = (nkey d).hash X.w) (ro : RO G M H a (.dcn l)) {e z : D} {y : V} (hk : nK e = true) (re : RV G M H e y) (hz : nLook l e = some z) : ∃ v, RV G M H z v ∧ GetOk X σ H a y v := by
  cases ro with
  | dcn h m n r =>
  obtain ⟨xs, rx, rfl⟩ := r.to (P := X.prog) hh
  rcases rx.look e with ⟨w, _⟩ | ⟨d, v, p, w, w2, rd, q⟩
  · rw [w] at hz; cases hz
  · rw [w] at hz; cases hz
    refine ⟨v, rd, fun {pins s u} I ru => ?_⟩
    have dd := dic_at I hK h rx
    refine ⟨dd.typeIs, fun Q hQ => ?_⟩
    obtain ⟨b, rfl⟩ := isTp_ref (by unfold nK at hk; rw [Bool.and_eq_true] at hk; exact hk.1) re
    obtain rfl : u = Value.ref b := ru
    exact wpAny_getItem_heap (nroom hr) (nk_is I hK hk re) dd w2 (hQ _ _ (I.tok _) q)
theorem nin_ok {k : Nat} (hr : Room k X.A) (hK : G.K = X.K) (hh : ∀ d, G.hash d = (nkey d).hash X.w) (ro : RO G M H a (.dcn l)) {e : D} {y : V} (hk : nK e = true) (re : RV G M H e y) : InOk X σ H .In y a (nLook l e).isSome ∧ InOk X σ H .NotIn y a (!(nLook l e).isSome) := by
  cases ro with
  | dcn h m n r =>
  obtain ⟨xs, rx, rfl⟩ := r.to (P := X.prog) hh
  obtain ⟨b, rfl⟩ := isTp_ref (by unfold nK at hk; rw [Bool.and_eq_true] at hk; exact hk.1) re
  refine ⟨fun {pins s u} I ru Q hQ => ?_, fun {pins s u} I ru Q hQ => ?_⟩
  · obtain rfl : u = Value.ref b := ru
    have dd := dic_at I hK h rx
    refine wpAny_in_heap (nroom hr) (nk_is I hK hk re) m dd ?_
    rw [← rx.has e]
    exact hQ _ (I.tok _)
  · obtain rfl : u = Value.ref b := ru
    have dd := dic_at I hK h rx
    refine notIn_keyed (nroom hr) (nk_is I hK hk re) m ⟨xs, dd, rfl⟩ ?_
    rw [valueAt_pairsH, Option.isSome_map, ← rx.has e]
    exact hQ _ (I.tok _)
theorem nput_ok {k : Nat} (gk : Gk G) (hr : Room k X.A) (hK : G.K = X.K) (hh : ∀ d, G.hash d = (nkey d).hash X.w) (ro : RO G M H a (.dcn l)) {e d : D} {y v : V} (hk : nK e = true) (re : RV G M H e y) (rd : RV G M H d v) (nf : ¬ M.F a) (hl : l.length < line) :
    SetOk X σ H a y v (fun H' => ∃ o, H' = upd H a o ∧ RO G M H' a (.dcn (nPut l e d))) := by
  cases ro with
  | dcn h m n r =>
  obtain ⟨xs, rx, rfl⟩ := r.to (P := X.prog) hh
  obtain ⟨b, rfl⟩ := isTp_ref (by unfold nK at hk; rw [Bool.and_eq_true] at hk; exact hk.1) re
  intro pins s u r I ru rr Q hQ
  obtain rfl : u = Value.ref b := ru
  have dd := dic_at I hK h rx
  have hz : xs.length ≤ sizeLine := by rw [rx.length]; exact n
  refine wpAny_setItem_heap (hsz := hz) (nroom hr) (nk_is I hK hk re) dd fun h' dd' hs => ?_
  have rx2 := rx.put re hk rd rr
  have he : ∃ q, h'.get? a = some q := let ⟨q, _, _, hq, _⟩ := dd'; ⟨q, hq⟩
  obtain ⟨ep2, ok2⟩ := dic_ok dd' rx2.keys
  refine hQ _ _ ⟨DicO a ((storedH xs (nkey e) b r).map (entryOfKey (nestedKind X.prog X.w))) ep2 ((nPut l e d).map fun p => nkey p.1), rfl, ?_⟩ (d_write I (by rw [h]; exact True.intro) hs he (ok2 _))
  exact .dcn upd_same m (by have := nPut_len l e d; rw [← line_eq]; omega) ((rx2.keep gk (Keep.poke nf)).to hh)
end
end Pf

set_option Elab.async false
set_option linter.all false
set_option maxRecDepth 100000
set_option maxHeartbeats 1000000
/-! ## Dicts whose keys are nested tuples: the bundles -/
namespace Pf
open PySem L2
def ngetE (d k : D) : Option D := match d with
  | .dcn l => if nK k then nLook l k else none
  | _ => none
/-- d[k], there -/
def Xp.nget (x : Xo) (y : Xp) : Xp where
  sem r h := (x.sem r h).bind fun d h1 => (y.sem r h1).bind fun e h2 => ofO (on1 (ngetE · e) h2 d) h2
  ok ck a := match a with
    | .Subscript u v _ => x.ok ck u && y.ok ck v && notSlice v
    | _ => false
  need t := HashL t ∧ x.need t ∧ y.need t
  star _ a h := by cases a <;> first | rfl | (simp at h)
  snd {X G ck k Wx a} C h n := by
    split at h
    · simp only [Bool.and_eq_true] at h
      refine PE.imp (pe_nget (x.snd C h.1.1 n.2.1) (y.snd C h.1.2 n.2.2) (noSl_of h.2)) fun σ H Qv ⟨r, h, M, rl, re, k⟩ => ⟨r, h, M, rl, re, one k fun d v h1 M1 H1 e1 r1 b1 k1 =>
        ⟨r, h1, M1, r1, re.ext C.gk rl e1, one k1 fun e u h2 M2 H2 e2 r2 b2 k2 => ?_⟩⟩
      try dsimp only at k2
      unfold on1 at k2
      cases q : vw h2 d with
      | none => rw [q] at k2; exact k2.elim
      | some z =>
        rw [q] at k2
        simp only [Option.bind_some] at k2
        unfold ngetE at k2
        split at k2
        · split at k2
          · rename_i l hk
            obtain ⟨p1, rfl, ro⟩ := (vw_ok r2 (b1.ext C.gk r1 e2) q).thing trivial
            cases w : nLook l e with
            | none => rw [w] at k2; exact k2.elim
            | some z =>
              rw [w] at k2
              obtain ⟨vv, rv, g⟩ := nget_ok (σ := σ) C.room C.hK n.1 ro hk b2 w
              exact ⟨p1, vv, rfl, g, k2.here r2 rv⟩
          · exact k2.elim
        · exact k2.elim
    · cases h
def ninE (d k : D) : Option Bool := match d with
  | .dcn l => if nK k then some (nLook l k).isSome else none
  | _ => none
/-- k in d -/
def Xt.nin (x : Xp) (y : Xo) : Xt where
  sem r h := (x.sem r h).bind fun d h1 => (y.sem r h1).bind fun e h2 => ofO (on1 (ninE · d) h2 e) h2
  ok := cmpB .In x.ok y.ok
  need t := HashL t ∧ x.need t ∧ y.need t
  snd {X G ck k Wx a} C h n := by
    obtain ⟨u, v, p, rfl, h1, h2, h3⟩ := cmpB_some h
    refine PT.imp (pt_cmp (pc_nin (x.snd C h1 n.2.1) (y.snd C h2 n.2.2)) (nomarkS h3)) fun σ H Qv ⟨r, h, M, rl, re, k⟩ => ⟨r, h, M, rl, re, one k fun d v h1 M1 H1 e1 r1 b1 k1 =>
        ⟨r, h1, M1, r1, re.ext C.gk rl e1, one k1 fun e u h2 M2 H2 e2 r2 b2 k2 => ?_⟩⟩
    try dsimp only at k2
    unfold on1 at k2
    cases q : vw h2 e with
    | none => rw [q] at k2; exact k2.elim
    | some z =>
      rw [q] at k2
      simp only [Option.bind_some] at k2
      unfold ninE at k2
      split at k2
      · split at k2
        · rename_i l hk
          obtain ⟨p1, rfl, ro⟩ := (vw_ok r2 b2 q).thing trivial
          exact ⟨p1, _, rfl, (nin_ok (σ := σ) C.room C.hK n.1 ro hk (b1.ext C.gk r1 e2)).1, _, rfl, k2.here r2 rfl⟩
        · exact k2.elim
      · exact k2.elim
def Xt.nnin (x : Xp) (y : Xo) : Xt where
  sem r h := (x.sem r h).bind fun d h1 => (y.sem r h1).bind fun e h2 => ofO (on1 (fun z => (ninE z d).map (!·)) h2 e) h2
  ok := cmpB .NotIn x.ok y.ok
  need t := HashL t ∧ x.need t ∧ y.need t
  snd {X G ck k Wx a} C h n := by
    obtain ⟨u, v, p, rfl, h1, h2, h3⟩ := cmpB_some h
    refine PT.imp (pt_cmp (pc_nin (x.snd C h1 n.2.1) (y.snd C h2 n.2.2)) (nomarkS h3)) fun σ H Qv ⟨r, h, M, rl, re, k⟩ => ⟨r, h, M, rl, re, one k fun d v h1 M1 H1 e1 r1 b1 k1 =>
        ⟨r, h1, M1, r1, re.ext C.gk rl e1, one k1 fun e u h2 M2 H2 e2 r2 b2 k2 => ?_⟩⟩
    try dsimp only at k2
    unfold on1 at k2
    cases q : vw h2 e with
    | none => rw [q] at k2; exact k2.elim
    | some z =>
      rw [q] at k2
      simp only [Option.bind_some] at k2
      unfold ninE at k2
      split at k2
      · split at k2
        · rename_i l hk
          obtain ⟨p1, rfl, ro⟩ := (vw_ok r2 b2 q).thing trivial
          exact ⟨p1, _, rfl, (nin_ok (σ := σ) C.room C.hK n.1 ro hk (b1.ext C.gk r1 e2)).2, _, rfl, k2.here r2 rfl⟩
        · exact k2.elim
      · exact k2.elim
/-- d[k] = e, d a name that owns its dict -/
def Sm.nput (j : Nat) (i e : Xp) : Sm where
  sem r h := (e.sem r h).st r fun d h1 => match r[j]? with
    | some (.ow (.dcn l)) => (i.sem r h1).st r fun k h2 => if nK k && decide (l.length < line) then .nx (r.set j (.ow (.dcn (nPut l k d)))) h2 else .no
    | _ => .no
  ok := setB (varB j) i.ok e.ok
  need t := HashL t ∧ i.need t ∧ e.need t
  snd {X G ck k Wx st} C hk h n := by
    obtain ⟨a, b, p, v, q, rfl, h1, h2, h3, h4, h5⟩ := setB_some h
    refine PS.imp (ps_nput (pe_varB C h1) (i.snd C h2 n.2.1) (e.snd C h3 n.2.2) (by cases v <;> first | rfl | (simp [notComp] at h4))) fun Dn σ H ⟨M0, H0, r, hh, M, s, k⟩ => ⟨r, hh, M, s.rl, s.re, oneS C.gk s k fun d v h1 M1 H1 e1 s1 rd k1 => ?_⟩
    try dsimp only at k1
    split at k1
    · rename_i l q
      obtain ⟨a, ha, _⟩ := s1.re.ow j _ q
      refine ⟨_, ha, r, h1, M1, s1.rl, s1.re, oneS C.gk s1 k1 fun kk w h2 M2 H2 e2 s2 rk k2 => ?_⟩
      try dsimp only at k2
      split at k2
      · rename_i hk
        simp only [Bool.and_eq_true, decide_eq_true_eq] at hk
        obtain ⟨b, hb, ro, na, nf⟩ := s2.re.ow j _ q
        rw [ha] at hb; cases hb
        refine ⟨_, _, rfl, nput_ok (σ := σ) C.gk C.room C.hK n.1 ro hk.1 rk (rd.ext C.gk s1.rl e2) nf hk.2, ?_⟩
        rintro H4 ⟨o, rfl, ro4⟩
        obtain ⟨kp, s3⟩ := s2.write C.gk (o := o) q ha ro4
        exact k2 σ M2 _ kp s3
      · exact k2.elim
    · exact k1.elim
theorem dict_empty {P : Program} {w : World} (h : Heap) : (h.push { cls := .type "dict", data := .dict #[] }).DictOfH (nestedKind P w) h.objs.size [] := Heap.DictOfH.new h
/-- {} -/
def Xn.nnil : Xn where
  sem r h := .ok (.dcn []) h
  ok ck a := match a with
    | .Dict [] [] _ => true
    | _ => false
  need _ := True
  star _ a h := by cases a <;> first | rfl | (simp at h)
  snd {X G ck k Wx a} C h n := by
    split at h
    · refine ⟨fun pins s σ H Q I ⟨r, hh, M, rl, re, k⟩ => ?_⟩
      obtain ⟨ep, ok0⟩ := dic_ok (xs := []) (dict_empty (P := X.prog) (w := X.w) s.heap) rfl
      refine wpAny_Dict_empty ⟨.ref s.heap.objs.size, _, I.laid (a := s.heap.objs.size) (o := DicO s.heap.objs.size [] ep []) (t' := s.toks) (fun _ _ q => Heap.get?_push_of_some _ q) (Nat.le_refl _) (ok0 _), rfl, ?_⟩
      have hp := I.hok.fresh (Nat.le_refl s.heap.objs.size)
      exact k _ M _ (Ext.loose hp) (rl.poke C.gk (rl.free hp) (rl.freeF hp) (nt_none hp)) ⟨_, rfl, .dcn (kvs := []) upd_same (beq_eq_false_iff_ne.mpr fun z => by have := I.big; rw [z] at this; exact absurd this (by decide)) (by simp) .nil, rl.free hp, rl.freeF hp, hp⟩
    · cases h
end Pf

set_option Elab.async false
set_option linter.all false
set_option maxRecDepth 100000
set_option maxHeartbeats 1000000
/-! ## {k: v}, d.get(k, x), nested keys -/
namespace Pf
open PySem L2
/-- {k: v} -/
def Xn.ndisp1 (x y : Xp) : Xn where
  sem r h := (x.sem r h).bind fun d h1 => (y.sem r h1).bind fun e h2 => if nK d then .ok (.dcn [(d, e)]) h2 else .no
  ok ck a := match a with
    | .Dict [some u] [v] _ => x.ok ck u && y.ok ck v
    | _ => false
  need t := HashL t ∧ x.need t ∧ y.need t
  star _ a h := by cases a <;> first | rfl | (simp at h)
  snd {X G ck k Wx a} C h n := by
    split at h
    · simp only [Bool.and_eq_true] at h
      refine ⟨fun pins s σ H Q I ⟨r, hh, M, rl, re, k⟩ => ?_⟩
      have hp := I.hok.fresh (Nat.le_refl s.heap.objs.size)
      obtain ⟨ep, ok0⟩ := dic_ok (xs := []) (dict_empty (P := X.prog) (w := X.w) s.heap) rfl
      have I1 : Inv X pins σ (upd H s.heap.objs.size (DicO s.heap.objs.size [] ep [])) { s with heap := s.heap.push { cls := .type "dict", data := .dict #[] } } := I.laid (a := s.heap.objs.size) (o := DicO s.heap.objs.size [] ep []) (t' := s.toks) (fun _ _ q => Heap.get?_push_of_some _ q) (Nat.le_refl _) (ok0 _)
      have hsm : (s.heap.objs.size == sysModules) = false := beq_eq_false_iff_ne.mpr (Ne.symm (Nat.ne_of_lt I.big))
      have rl0 := rl.poke C.gk (o := DicO s.heap.objs.size [] ep []) (rl.free hp) (rl.freeF hp) (nt_none hp)
      have x0 : Ext M H M (upd H s.heap.objs.size (DicO s.heap.objs.size [] ep [])) := Ext.loose hp
      have re0 := re.ext C.gk rl x0
      have lo : ∀ {M1 : Mp} {H1 : Hp}, Ext M (upd H s.heap.objs.size (DicO s.heap.objs.size [] ep [])) M1 H1 → H1 s.heap.objs.size = some (DicO s.heap.objs.size [] ep []) ∧ s.heap.objs.size ∉ M1.bs ∧ ¬ M1.F s.heap.objs.size := fun {M1 H1} e => ⟨e.keep _ _ upd_same (rl.free hp) trivial, e.off upd_same (rl.free hp), e.offF rl0 upd_same trivial (rl.free hp) (rl.freeF hp)⟩
      refine wpAny_Dict_any (by rfl) (by rfl) (fun z => by cases z) (by simp) (thn ((pps_cons (x.snd C h.1 n.2.1) (y.snd C h.2 n.2.2) pps_nil).run pins _ σ _ (fun ps H2 => ∃ d e v u h2 M2, ps = [(v, u)] ∧ nK d = true ∧ RV G M2 H2 d v ∧ RV G M2 H2 e u ∧ RL G h2 M2 H2 ∧ Ext M (upd H s.heap.objs.size (DicO s.heap.objs.size [] ep [])) M2 H2 ∧ KG (RN H G) G Wx σ M H Q (.ok (.dcn [(d, e)]) h2)) I1 ?_) ?_)
      · refine ⟨r, hh, M, rl0, re0, ?_⟩
        dsimp only at k
        cases q1 : x.sem r hh with
        | no => rw [q1] at k; exact k.elim
        | exc c fs h' => rw [q1] at k; exact fun cls dx M' H' e => k cls dx M' H' (x0.trans e)
        | ok d h1 =>
          rw [q1] at k
          simp only [bind_ok] at k
          intro v M1 H1 e1 r1 b1
          refine ⟨r, h1, M1, r1, re0.ext C.gk rl0 e1, ?_⟩
          cases q2 : y.sem r h1 with
          | no => rw [q2] at k; exact k.elim
          | exc c fs h' => rw [q2] at k; exact fun cls dx M' H' e => k cls dx M' H' (x0.trans (e1.trans e))
          | ok e h2 =>
            rw [q2] at k
            simp only [bind_ok] at k
            split at k
            · rename_i hk
              intro u M2 H2 e2 r2 b2
              exact ⟨d, e, v, u, h2, M2, rfl, hk, b1.ext C.gk r1 e2, b2, r2, e1.trans e2, k⟩
            · exact k.elim
      · rintro vs s1 ⟨ps, H2, I2, rel, d, e, v, u, h2, M2, rfl, hk, b1, b2, r2, ex, k2⟩
        obtain ⟨l1, l2, l3⟩ := lo ex
        cases rel with
        | cons rp rt =>
          cases rt
          rename_i q
          obtain ⟨rp1, rp2⟩ := rp
          obtain ⟨b, rfl⟩ := isTp_ref (by unfold nK at hk; rw [Bool.and_eq_true] at hk; exact hk.1) b1
          obtain ⟨q1, q2⟩ := q
          dsimp only at rp1 rp2
          obtain rfl : q1 = Value.ref b := rp1
          have dd := dic_at (M := M2) (l := []) (xs := []) I2 C.hK l1 .nil
          have hu : (nestedKind X.prog X.w).room X.A := by
            have := room65 C.room
            show X.A.units + 8 < cLine
            omega
          refine wpAny_storeAllH hu [(.ref b, q2)] [(nkey d, b, q2)] [] s1 _ ⟨rfl, rfl, nk_is I2 C.hK hk b1, trivial⟩ dd (show 1 ≤ sizeLine by rw [sizeLine_eq]; decide) fun h' tk dd' hs => ?_
          have rx : RXn G M2 H2 [(d, e)] [(nkey d, b, q2)] := .cons b1 hk b2 rp2 .nil
          have he : ∃ q, h'.get? s.heap.objs.size = some q := let ⟨q, _, _, hq, _⟩ := dd'; ⟨q, hq⟩
          obtain ⟨ep2, ok2⟩ := dic_ok dd' (ks := [nkey d]) rfl
          have I3 := d_write (ob := DicO s.heap.objs.size ([(nkey d, b, q2)].map (entryOfKey (nestedKind X.prog X.w))) ep2 ([(d, e)].map fun zz => nkey zz.1)) (t' := tk) I2 (by rw [l1]; exact True.intro) hs he (ok2 _)
          refine ⟨.ref s.heap.objs.size, _, I3, rfl, k2 _ M2 _ ((x0.trans ex).up hp) (r2.poke C.gk l2 l3 (nt_some l1 trivial)) ⟨s.heap.objs.size, rfl, .dcn upd_same hsm (show 1 ≤ sizeLine by rw [sizeLine_eq]; decide) ((rx.keep C.gk (Keep.poke l3)).to n.1), l2, l3, hp⟩⟩
    · cases h
end Pf

set_option Elab.async false
set_option linter.all false
set_option maxRecDepth 100000
set_option maxHeartbeats 1000000
/-! ## Functions made within functions: their objects, what they promise -/
namespace Pf
open PySem L2 NdefX LamX
def Cl.is (C : Cl) (cl : List (Str × Addr)) (c : Addr) (fd : FuncData) : Prop := match C.body with
  | .st b => ∃ doc pm ctv : Value, fd = PySem.W.fnX C.name C.qual C.params b C.scope cl .none .none doc pm none (.ref c) ctv
  | .ex e => ∃ pm ctv : Value, fd = PySem.W.kla_fn C.name C.qual C.params e C.scope cl pm (.ref c) ctv
def ClO (f : Addr) (C : Cl) (cl : List (Str × Addr)) (c : Addr) : HO := .ext fun h => ∃ (od : Option Addr) (sl : Array (Option Value)) (fd : FuncData), h.get? f = some (⟨.type "function", od, .func fd, sl⟩ : Obj) ∧ C.is cl c fd
abbrev Cl.nf (C : Cl) (cl : List (Str × Addr)) (c : Addr) : NF := ⟨C.name, C.qual, C.params, match C.body with | .st b => b | .ex _ => [], C.scope, cl, c⟩
/-- the promise of such a function -/
structure COk (P : Program) (w : World) (K : PySem.W.Frag) (mg : Str → Option Value) (base : Heap) (CX : CXT) (k : Nat) (f : Addr) (C : Cl) (cl : List (Str × Addr)) (c : Addr) (ps : List Str) (sp : List (Option V) → L2.Sp) : Prop where
  len : ∀ ws vs H Q E, sp ws vs H Q E → vs.length = ps.length
  run : ∀ (A : Around) (outer : List Env) (s : Shared) (H : Hp) (us : List Value) (vs : List V) (ws : List (Option V)) (Q : VK) (E : XK), Room k A → Env0 P w K mg base A outer s H → H f = some (ClO f C cl c) → H c = some (CodeO c C.qual) →
    CellsAt cl C.fr ws s.heap H → Vals vs us → sp ws vs H Q E → codeAny (model P w) A (.call (.ref f) ⟨us, []⟩) (CR CX outer P w H s Q E) s
section
variable {CX : CXT} {P : Program} {w : World} {K : PySem.W.Frag} {mg : Str → Option Value} {base : Heap} {N ps : List Str} {C : Cl} {cl : List (Str × Addr)} {c f : Addr} {k j : Nat} {sp sp' : List (Option V) → L2.Sp}
theorem COk.mono (o : COk P w K mg base CX j f C cl c ps sp) (h : j ≤ k) : COk P w K mg base CX k f C cl c ps sp := ⟨o.len, fun A outer s H us vs ws Q E hr => o.run A outer s H us vs ws Q E (hr.mono h)⟩
theorem COk.imp (o : COk P w K mg base CX k f C cl c ps sp) (h : ∀ ws vs H Q E, sp' ws vs H Q E → sp ws vs H Q E) : COk P w K mg base CX k f C cl c ps sp' :=
  ⟨fun ws vs H Q E q => o.len ws vs H Q E (h _ _ _ _ _ q), fun A outer s H us vs ws Q E hr e0 hf hc Cc r q => o.run A outer s H us vs ws Q E hr e0 hf hc Cc r (h _ _ _ _ _ q)⟩
theorem cok_ex {e : Expr} (hC : C.body = .ex e) (S : NScope N ps C.fr C.scope) (hb : ∀ (pm ctv : Value) (us : List Value), us.length = ps.length → bindArgs (PySem.W.kla_fn C.name C.qual C.params e C.scope cl pm (.ref c) ctv) ⟨us, []⟩ = pure (ps.zip us)) (len : ∀ ws vs H Q E, sp ws vs H Q E → vs.length = ps.length)
    (hbody : ∀ (A : Around) (outer : List Env) (s : Shared) (H : Hp) (vs : List V) (ws : List (Option V)) (Q : VK) (E : XK), Room k (A.deeper (envF (C.nf cl c) f s.heap.objs.size)) → ws.length = C.fr.length → sp ws vs H Q E →
      ∃ t, PE (ncx CX P w K mg base N (C.nf cl c) f A outer s H E) e t ∧ t (startF N vs ws) H Q) :
    COk P w K mg base CX (k + 1) f C cl c ps sp := by
  refine ⟨len, fun A outer s H us vs ws Q E hr e0 hf hc Cc r hsp => ?_⟩
  have hl := len _ _ _ _ _ hsp
  have lim : s.heap.NoLimit := e0.mod.nolimit.keeps fun b o e => (e0.bs b o e).1
  obtain ⟨⟨od, sl, fd, ho, hfd⟩, _, _⟩ := e0.hok f _ hf
  unfold Cl.is at hfd
  rw [hC] at hfd
  obtain ⟨pm, ctv, rfl⟩ := hfd
  refine PySem.W.kla_callFunE hr.depth ho rfl S.co S.gen rfl (codeO_at e0.hok hc) ?_
  rw [hb pm ctv us (by rw [← r.length]; exact hl)]
  refine wpAny_pure (wpAny_newFunctionEnv S.nocell (fun ⟨n, _⟩ hy => S.par n (List.of_mem_zip hy).1) (fun h₁ hns hsb => ⟨lim.fresh _ hsb, ?_⟩) S.kind)
  show codeAny _ _ (.expr e (envF (C.nf cl c) f s.heap.objs.size)) _ _
  have kp : ∀ b o, s.heap.get? b = some o → h₁.get? b = some o := fun b o e => hsb.extBut b o (Nat.ne_of_lt (Heap.lt_size e)) (Heap.get?_push_of_some _ e)
  obtain ⟨t, ht, hq⟩ := hbody A outer s H vs ws Q E (hr.deeper _) Cc.len hsp
  have I : Inv (ncx CX P w K mg base N (C.nf cl c) f A outer s H E) [] (startF N vs ws) H { s with heap := h₁, toks := s.toks + (ps.zip us).length } := inv_startN (F := C.nf cl c) S hr.hd e0 hl r Cc hns kp
  refine PySem.W.kla_codeExpr (wpAny_mono (ht.run [] _ (startF N vs ws) H _ I hq) (fun u s' ⟨v, H', J, rv, q⟩ => ?_) fun e s' hs => hs)
  exact ⟨v, H', J.os, J.bare, J.base, J.hok, rv, q⟩
theorem cok_st {b : List Stmt} (hC : C.body = .st b) (S : NScope N ps C.fr C.scope) (hb : ∀ (doc pm ctv : Value) (us : List Value), us.length = ps.length → bindArgs (PySem.W.fnX C.name C.qual C.params b C.scope cl .none .none doc pm none (.ref c) ctv) ⟨us, []⟩ = pure (ps.zip us)) (len : ∀ ws vs H Q E, sp ws vs H Q E → vs.length = ps.length)
    (hbody : ∀ (A : Around) (outer : List Env) (s : Shared) (H : Hp) (vs : List V) (ws : List (Option V)) (Q : VK) (E : XK), Room k (A.deeper (envF (C.nf cl c) f s.heap.objs.size)) → ws.length = C.fr.length → sp ws vs H Q E →
      ∃ t, PSs (ncx CX P w K mg base N (C.nf cl c) f A outer s H E) b t ∧ t { nx := fun _ H' => Q .non H', rt := Q } (startF N vs ws) H) :
    COk P w K mg base CX (k + 1) f C cl c ps sp := by
  refine ⟨len, fun A outer s H us vs ws Q E hr e0 hf hc Cc r hsp => ?_⟩
  have hl := len _ _ _ _ _ hsp
  have lim : s.heap.NoLimit := e0.mod.nolimit.keeps fun b o e => (e0.bs b o e).1
  obtain ⟨⟨od, sl, fd, ho, hfd⟩, _, _⟩ := e0.hok f _ hf
  unfold Cl.is at hfd
  rw [hC] at hfd
  obtain ⟨doc, pm, ctv, rfl⟩ := hfd
  refine codeAny_call_function hr.depth ho rfl S.co S.gen rfl (codeO_at e0.hok hc) ?_
  rw [hb doc pm ctv us (by rw [← r.length]; exact hl)]
  refine wpAny_pure (wpAny_newFunctionEnv S.nocell (fun ⟨n, _⟩ hy => S.par n (List.of_mem_zip hy).1) (fun h₁ hns hsb => ⟨lim.fresh _ hsb, ?_⟩) S.kind)
  show codeAny _ _ (.func b (envF (C.nf cl c) f s.heap.objs.size)) _ _
  refine codeAny_func ?_
  have kp : ∀ b o, s.heap.get? b = some o → h₁.get? b = some o := fun b o e => hsb.extBut b o (Nat.ne_of_lt (Heap.lt_size e)) (Heap.get?_push_of_some _ e)
  obtain ⟨t, ht, hq⟩ := hbody A outer s H vs ws Q E (hr.deeper _) Cc.len hsp
  have I : Inv (ncx CX P w K mg base N (C.nf cl c) f A outer s H E) [] (startF N vs ws) H { s with heap := h₁, toks := s.toks + (ps.zip us).length } := inv_startN (F := C.nf cl c) S hr.hd e0 hl r Cc hns kp
  refine wpAny_mono (ht.run [] _ (startF N vs ws) H _ I hq) (fun fl s' hs => ?_) fun e s' hs => hs
  have fin : ∀ {σ' : L2.St} {H' : Hp} {v : V} {u : Value}, Inv (ncx CX P w K mg base N (C.nf cl c) f A outer s H E) [] σ' H' s' → L2.RelV v u → Q v H' → CE outer P w H s Q u s' :=
    fun {σ' H' v u} J rv q => ⟨v, H', J.os, J.bare, J.base, J.hok, rv, q⟩
  cases fl with
  | ret u =>
    obtain ⟨v, σ', H', J, rv, q⟩ := hs
    exact fin J rv q
  | next =>
    obtain ⟨σ', H', J, q⟩ := hs
    exact fin (v := V.non) (u := Value.none) J rfl q
  | brk =>
    obtain ⟨_, _, _, q⟩ := hs
    exact False.elim q
  | cont =>
    obtain ⟨_, _, _, q⟩ := hs
    exact False.elim q
end
theorem start_no_ow {n i : Nat} {ds : List D} {d : D} (q1 : (startR n ds)[i]? = some (.ow d)) : False := by
  unfold startR at q1
  by_cases hi : i < ds.length
  · rw [List.getElem?_append_left (by simpa using hi), List.getElem?_map] at q1
    cases q : ds[i]? with
    | none => rw [q] at q1; cases q1
    | some d => rw [q] at q1; cases q1
  · rw [List.getElem?_append_right (by simpa using hi), List.getElem?_replicate] at q1
    split at q1 <;> cases q1
/-- what such a function computes, of its arguments and what it captured -/
def spC (G : Gx) (n : Nat) (F : Fsem) : List (Option V) → L2.Sp := fun ws vs H Q E => ∃ xs ds cs h M, ws = xs.map some ∧ ds.length = n ∧ RL G h M H ∧ RVs G M H ds vs ∧ RVs G M H cs xs ∧ KG (RV G) G (fun cls dx _ H' => E cls dx H') [] M H Q (F (ds ++ cs) h)
theorem startF_eq (N : List Str) (vs xs : List V) : startF N vs (xs.map some) = L2.start N (vs ++ xs) := by
  unfold startF L2.start
  simp [List.map_append, List.append_assoc, Nat.sub_sub]
section
variable {P : Program} {w : World} {G : Gx} {base : Heap} {k : Nat} {N ps : List Str} {C : Cl} {f c : Addr} {cl : List (Str × Addr)}
theorem cl_cok {ck : Ck} {A : Around} {outer : List Env} {s : Shared} {H : Hp} {E : XK} (gk : Gk G) (S : NScope N ps C.fr C.scope) (hr : Room (k + 2) (A.deeper (envF (C.nf cl c) f s.heap.objs.size))) (hck : ck = ⟨N, C.scope, true⟩) :
    Cok (ncx (L2.CX P w) P w G.K G.mg base N (C.nf cl c) f A outer s H E) G ck k (fun cls d _ H' => E cls d H') := by
  subst hck
  exact ⟨rfl, rfl, rfl, rfl, rfl, S.nd, hr, takes_of rfl rfl rfl rfl, passes_of rfl, fun z => (nomatch z), gk⟩
/-- a lambda by its body -/
theorem cl_ex (gk : Gk G) {e : Expr} {x : Xp} (hC : C.body = .ex e) (S : NScope N ps C.fr C.scope) (ok : x.ok ⟨N, C.scope, true⟩ e = true) (nd : x.need ⟨P, w, G, base, k⟩)
    (hb : ∀ (cl : List (Str × Addr)) (c : Addr) (pm ctv : Value) (us : List Value), us.length = ps.length → bindArgs (PySem.W.kla_fn C.name C.qual C.params e C.scope cl pm (.ref c) ctv) ⟨us, []⟩ = pure (ps.zip us)) :
    COk P w G.K G.mg base (L2.CX P w) (k + 3) f C cl c ps (spC G ps.length (fun ds h => x.sem (startR N.length ds) h)) := by
  refine cok_ex hC S (hb cl c) (fun ws vs H Q E ⟨xs, ds, cs, h, M, e1, hn, rl, rd, rc, kq⟩ => by rw [← rd.length]; exact hn) fun A outer s H vs ws Q E hr hw ⟨xs, ds, cs, h, M, e1, hn, rl, rd, rc, kq⟩ => ?_
  subst e1
  refine ⟨_, x.snd (cl_cok gk S hr rfl) ok nd, ?_⟩
  rw [startF_eq]
  refine ⟨startR N.length (ds ++ cs), h, M, rl, RE.start (rd.append rc), ?_⟩
  dsimp only at kq
  cases q : x.sem (startR N.length (ds ++ cs)) h with
  | no => rw [q] at kq; exact kq
  | ok d h' => rw [q] at kq; exact kq
  | exc c fs h' => rw [q] at kq; exact kq
/-- a def by its body -/
theorem cl_st (gk : Gk G) {b : List Stmt} {ss : List Si} (hC : C.body = .st b) (S : NScope N ps C.fr C.scope) (ok : okSs ss ⟨N, C.scope, true⟩ b = true) (nd : needSs ss ⟨P, w, G, base, k⟩)
    (hb : ∀ (cl : List (Str × Addr)) (c : Addr) (doc pm ctv : Value) (us : List Value), us.length = ps.length → bindArgs (PySem.W.fnX C.name C.qual C.params b C.scope cl .none .none doc pm none (.ref c) ctv) ⟨us, []⟩ = pure (ps.zip us)) :
    COk P w G.K G.mg base (L2.CX P w) (k + 3) f C cl c ps (spC G ps.length (fun ds h => outR (semSs ss (startR N.length ds) h))) := by
  refine cok_st hC S (hb cl c) (fun ws vs H Q E ⟨xs, ds, cs, h, M, e1, hn, rl, rd, rc, kq⟩ => by rw [← rd.length]; exact hn) fun A outer s H vs ws Q E hr hw ⟨xs, ds, cs, h, M, e1, hn, rl, rd, rc, kq⟩ => ?_
  subst e1
  refine ⟨_, sndSs ss (cl_cok gk S hr rfl) S.kind ok nd, ?_⟩
  rw [startF_eq]
  refine ⟨M, H, startR N.length (ds ++ cs), h, M, ⟨Ext.refl, rl, RE.start (rd.append rc), fun i d a q1 q2 => ?_⟩, ?_⟩
  · exact (start_no_ow q1).elim
  · dsimp only at kq
    cases q : semSs ss (startR N.length (ds ++ cs)) h with
    | nx r h' => rw [q] at kq; exact fun σ' M' H' _ sv => kq _ M' H' sv.ent sv.rl .non
    | rt d h' => rw [q] at kq; exact kq
    | bk r h' => rw [q] at kq; exact kq.elim
    | ct r h' => rw [q] at kq; exact kq.elim
    | exc c fs r h' => rw [q] at kq; exact fun cls dx σ' M' H' _ sv rx => kq cls dx M' H' sv.ent sv.rl rx
    | no => rw [q] at kq; exact kq.elim
end
end Pf

set_option Elab.async false
set_option linter.all false
set_option maxRecDepth 100000
set_option maxHeartbeats 1000000
/-! ## Cells of functions made within functions: known to the heap, or not -/
namespace Pf
open PySem L2 NdefX LamX
def CelO (c : Addr) (o : Obj) : HO := .frz o (.ext fun h => h.get? c = some o)
abbrev Cs := List (Addr × Obj)
def ovl (H : Hp) (cs : Cs) : Hp := fun b => match cs.lookup b with
  | some o => some (CelO b o)
  | none => H b
def unl (H : Hp) (cs : Cs) : Hp := fun b => match cs.lookup b with
  | some _ => none
  | none => H b
theorem ovl_c {H : Hp} {cs : Cs} {b : Addr} {o : Obj} (h : cs.lookup b = some o) : ovl H cs b = some (CelO b o) := by unfold ovl; rw [h]
theorem ovl_n {H : Hp} {cs : Cs} {b : Addr} (h : cs.lookup b = none) : ovl H cs b = H b := by unfold ovl; rw [h]
theorem unl_c {H : Hp} {cs : Cs} {b : Addr} {o : Obj} (h : cs.lookup b = some o) : unl H cs b = none := by unfold unl; rw [h]
theorem unl_n {H : Hp} {cs : Cs} {b : Addr} (h : cs.lookup b = none) : unl H cs b = H b := by unfold unl; rw [h]
theorem ovl_unl (H : Hp) (cs : Cs) (h : ∀ b o, cs.lookup b = some o → H b = some (CelO b o)) : ovl (unl H cs) cs = H := by
  funext b
  cases e : cs.lookup b with
  | none => rw [ovl_n e, unl_n e]
  | some o => rw [ovl_c e, h b o e]
/-- the captured cells, without the heap -/
structure Cells (cl : List (Str × Addr)) (fr : List Str) (xs : List V) (cs : Cs) : Prop where
  len : xs.length = fr.length
  all : ∀ y c, cl.lookup y = some c → ∃ o v, cs.lookup c = some o ∧ o.data = .cell v
  inj : ∀ x y c, cl.lookup x = some c → cl.lookup y = some c → x = y
  has : ∀ (i : Nat) (y : Str), fr[i]? = some y → ∃ c o u v, cl.lookup y = some c ∧ cs.lookup c = some o ∧ o.data = .cell (some u) ∧ xs[i]? = some v ∧ RelV v u
def hcD (ct : List Cl) (F : Addr → Prop) (H : Hp) (i : Nat) (xs : List V) (v : V) : Prop := ∃ (C : Cl) (f c : Addr) (cl : List (Str × Addr)) (cs : Cs), ct[i]? = some C ∧ v = .ref f ∧ F f ∧ F c ∧ H f = some (ClO f C cl c) ∧ H c = some (CodeO c C.qual) ∧
  (∀ b o, cs.lookup b = some o → F b ∧ H b = some (CelO b o)) ∧ Cells cl C.fr xs cs
theorem hcD_keep {ct : List Cl} {F F' : Addr → Prop} {H H' : Hp} (k : ∀ a, F a → F' a ∧ ∀ o, H a = some o → H' a = some o) (i : Nat) (xs : List V) (v : V) (h : hcD ct F H i xs v) : hcD ct F' H' i xs v := by
  obtain ⟨C, f, c, cl, cs, e1, e2, f1, f2, h1, h2, h3, h4⟩ := h
  exact ⟨C, f, c, cl, cs, e1, e2, (k f f1).1, (k c f2).1, (k f f1).2 _ h1, (k c f2).2 _ h2, fun b o q => ⟨(k b (h3 b o q).1).1, (k b (h3 b o q).1).2 _ (h3 b o q).2⟩, h4⟩
theorem Cells.at {cl : List (Str × Addr)} {fr : List Str} {xs : List V} {cs : Cs} {h : Heap} {H : Hp} (x : Cells cl fr xs cs) (hh : ∀ b o, cs.lookup b = some o → h.get? b = some o) : CellsAt cl fr (xs.map some) h (unl H cs) where
  len := by rw [List.length_map]; exact x.len
  all := fun y c e => by
    obtain ⟨o, v, h1, h2⟩ := x.all y c e
    exact ⟨unl_c h1, v, o, hh c o h1, h2⟩
  inj := x.inj
  has := fun i y e => by
    obtain ⟨c, o, u, v, h1, h2, h3, h4, h5⟩ := x.has i y e
    refine ⟨c, h1, fun v' q => ?_⟩
    rw [List.getElem?_map, h4] at q
    cases q
    exact ⟨u, h5, o, hh c o h2, h3⟩
/-! ### the heap's objects -/
section
variable {P : Program} {w : World} {H : Hp} {h : Heap} {cs : Cs}
theorem hok_unl (k : HOk P w H h) (hc : ∀ b o, cs.lookup b = some o → ∀ x, H b ≠ some (.own x)) (ht : ∀ b o, cs.lookup b = some o → ∀ xs, H b ≠ some (.tup xs)) : HOk P w (unl H cs) h := fun a o e => by
  cases q : cs.lookup a with
  | some o' => rw [unl_c q] at e; cases e
  | none =>
    rw [unl_n q] at e
    refine (k a o e).stay (fun b u _ z => z) (fun b z => ?_) fun b xs z => ?_
    · cases q2 : cs.lookup b with
      | some o2 => exact absurd z (hc b o2 q2 a)
      | none => rw [unl_n q2]; exact z
    · cases q2 : cs.lookup b with
      | some o2 => exact absurd z (ht b o2 q2 xs)
      | none => rw [unl_n q2]; exact z
theorem hok_ovl (k : HOk P w H h) (hh : ∀ b o, cs.lookup b = some o → h.get? b = some o) (hn : ∀ b o, cs.lookup b = some o → H b = none) : HOk P w (ovl H cs) h := fun a o e => by
  have up : ∀ b u, H b = some u → ovl H cs b = some u := fun b u z => by
    cases q : cs.lookup b with
    | some o' => rw [hn b o' q] at z; cases z
    | none => rw [ovl_n q]; exact z
  cases q : cs.lookup a with
  | some o' =>
    rw [ovl_c q] at e
    cases e
    have g := hh a o' q
    exact ⟨g, g, ⟨o', g⟩, fun h1 h2 z k => k _ z⟩
  | none =>
    rw [ovl_n q] at e
    exact (k a o e).stay (fun b u _ z => z) (fun b z => up b _ z) fun b xs z => up b _ z
end
/-! ### data without functions -/
mutual
def nclo : D → Bool
  | .non => true | .bl _ => true | .int _ => true | .str _ => true | .ty _ => true
  | .tup l => nclos l | .lst l => nclos l | .lsc l => nclos l
  | .dct l => nclop l | .dcn l => nclop l | .set l => nclos l
  | .ins _ fs => nclof fs
  | .ref _ => true | .gl _ => true
  | .clo _ _ => false | .exc _ _ => false
def nclos : List D → Bool
  | [] => true
  | d :: l => nclo d && nclos l
def nclof : List (Nat × D) → Bool
  | [] => true
  | p :: l => nclo p.2 && nclof l
def nclop : List (D × D) → Bool
  | [] => true
  | p :: l => nclo p.1 && nclo p.2 && nclop l
end
section
variable {G : Gx} {M : Mp} {H : Hp} {cs : Cs}
abbrev Mp.un (M : Mp) (cs : Cs) : Mp := ⟨fun b => M.F b ∧ cs.lookup b = none, M.bs⟩
abbrev Mp.ov (M : Mp) (cs : Cs) : Mp := ⟨fun b => M.F b ∨ ∃ o, cs.lookup b = some o, M.bs⟩
def HasC (H : Hp) (cs : Cs) : Prop := ∀ b o, cs.lookup b = some o → H b = some (CelO b o)
theorem HasC.off (hc : HasC H cs) {b : Addr} {u : HO} (e : H b = some u) (n : ∀ o, u ≠ CelO b o) : cs.lookup b = none := by
  cases q : cs.lookup b with
  | none => rfl
  | some o =>
    have := hc b o q
    rw [e] at this
    cases this
    exact absurd rfl (n o)
theorem HasC.un (hc : HasC H cs) {b : Addr} {u : HO} (e : H b = some u) (n : ∀ o, u ≠ CelO b o) : unl H cs b = some u := by rw [unl_n (hc.off e n)]; exact e
theorem TupAt.un {a : Addr} {xs : List V} (hc : HasC H cs) (h : TupAt G M.F H a xs) : TupAt G (M.un cs).F (unl H cs) a xs := by
  rcases h with ⟨h, n⟩ | h
  · exact .inl ⟨⟨h, hc.off n (fun o z => nomatch z)⟩, hc.un n (fun o z => nomatch z)⟩
  · exact .inr h
theorem LscAt.un {a : Addr} {xs : List V} (hc : HasC H cs) (h : LscAt G M.F H a xs) : LscAt G (M.un cs).F (unl H cs) a xs := by
  have nn : ∀ o o', HO.frz o (.lst xs) ≠ CelO a o' := fun o o' z => by unfold CelO at z; injection z with _ z; cases z
  rcases h with ⟨h, o, n⟩ | h
  · exact .inl ⟨⟨h, hc.off n (nn o)⟩, o, hc.un n (nn o)⟩
  · exact .inr h
mutual
theorem RV.un (hc : HasC H cs) : ∀ {d : D} {v : V}, nclo d = true → RV G M H d v → RV G (M.un cs) (unl H cs) d v
  | _, _, _, .non => .non
  | _, _, _, .bl b => .bl b
  | _, _, _, .int i => .int i
  | _, _, _, .str x => .str x
  | _, _, _, .ty n => .ty n
  | _, _, e, .tup h r => .tup (h.un hc) (RVs.un hc (by simpa [nclo] using e) r)
  | _, _, e, .scr h r => .scr (h.un hc) (RVs.un hc (by simpa [nclo] using e) r)
  | _, _, e, .lst h r => by
    obtain ⟨n, r'⟩ := RO.un hc e r
    exact .lst ⟨h, n⟩ r'
  | _, _, e, .dct (a := a) (o := o) (ks := ks) h q r => by
    have nn : ∀ o', HO.frz o (.dK ks) ≠ CelO a o' := fun o' z => by unfold CelO at z; injection z with _ z; cases z
    exact .dct ⟨h, hc.off q nn⟩ (hc.un q nn) (RKs.un hc (by simpa [nclo] using e) r)
  | _, _, e, .dcn h r => by
    obtain ⟨n, r'⟩ := RO.un hc e r
    exact .dcn ⟨h, n⟩ r'
  | _, _, e, .set h r => by
    obtain ⟨n, r'⟩ := RO.un hc e r
    exact .set ⟨h, n⟩ r'
  | _, _, e, .ins h r => by
    obtain ⟨n, r'⟩ := RO.un hc e r
    exact .ins ⟨h, n⟩ r'
  | _, _, _, .ref h => .ref h
  | _, _, _, .gl h => .gl h
  | _, _, e, .clo h r => by simp [nclo] at e
  | _, _, e, .exc m h d n r => by simp [nclo] at e
theorem RVs.un (hc : HasC H cs) : ∀ {l : List D} {xs : List V}, nclos l = true → RVs G M H l xs → RVs G (M.un cs) (unl H cs) l xs
  | _, _, _, .nil => .nil
  | _, _, e, .cons h t => by
    simp only [nclos, Bool.and_eq_true] at e
    exact .cons (RV.un hc e.1 h) (RVs.un hc e.2 t)
theorem RFs.un (hc : HasC H cs) : ∀ {l : List (Nat × D)} {xs : List (Str × V)}, nclof l = true → RFs G M H l xs → RFs G (M.un cs) (unl H cs) l xs
  | _, _, _, .nil => .nil
  | _, _, e, .cons n h t => by
    simp only [nclof, Bool.and_eq_true] at e
    exact .cons n (RV.un hc e.1 h) (RFs.un hc e.2 t)
theorem RPs.un (hc : HasC H cs) : ∀ {l : List (D × D)} {xs : List DictEntry}, nclop l = true → RPs G M H l xs → RPs G (M.un cs) (unl H cs) l xs
  | _, _, _, .nil => .nil
  | _, _, e, .cons k q d s g t => by
    simp only [nclop, Bool.and_eq_true] at e
    exact .cons (RV.un hc e.1.1 k) q (RV.un hc e.1.2 d) s g (RPs.un hc e.2 t)
theorem RKs.un (hc : HasC H cs) : ∀ {l : List (D × D)} {xs : List (Key × V)}, nclop l = true → RKs G M H l xs → RKs G (M.un cs) (unl H cs) l xs
  | _, _, _, .nil => .nil
  | _, _, e, .int d t => by
    simp only [nclop, Bool.and_eq_true] at e
    exact .int (RV.un hc e.1.2 d) (RKs.un hc e.2 t)
  | _, _, e, .str d t => by
    simp only [nclop, Bool.and_eq_true] at e
    exact .str (RV.un hc e.1.2 d) (RKs.un hc e.2 t)
theorem RSs.un (hc : HasC H cs) : ∀ {l : List D} {xs : List (Int × Value)}, nclos l = true → RSs G M H l xs → RSs G (M.un cs) (unl H cs) l xs
  | _, _, _, .nil => .nil
  | _, _, e, .cons k q g t => by
    simp only [nclos, Bool.and_eq_true] at e
    exact .cons (RV.un hc e.1 k) q g (RSs.un hc e.2 t)
theorem RO.un (hc : HasC H cs) : ∀ {a : Addr} {o : D}, nclo o = true → RO G M H a o → cs.lookup a = none ∧ RO G (M.un cs) (unl H cs) a o
  | _, _, e, .lst h r => ⟨hc.off h (fun o z => nomatch z), .lst (hc.un h (fun o z => nomatch z)) (RVs.un hc (by simpa [nclo] using e) r)⟩
  | _, _, e, .dct h r => ⟨hc.off h (fun o z => nomatch z), .dct (hc.un h (fun o z => nomatch z)) (RKs.un hc (by simpa [nclo] using e) r)⟩
  | _, _, e, .dcn h m n r => ⟨hc.off h (fun o z => nomatch z), .dcn (hc.un h (fun o z => nomatch z)) m n (RPs.un hc (by simpa [nclo] using e) r)⟩
  | _, _, e, .set h r => ⟨hc.off h (fun o z => nomatch z), .set (hc.un h (fun o z => nomatch z)) (RSs.un hc (by simpa [nclo] using e) r)⟩
  | _, _, e, .ins i m h r => ⟨hc.off h (fun o z => nomatch z), .ins i m (hc.un h (fun o z => nomatch z)) (RFs.un hc (by simpa [nclo] using e) r)⟩
  | _, _, e, .sl0 i m h => ⟨hc.off h (fun o z => nomatch z), .sl0 i m (hc.un h (fun o z => nomatch z))⟩
  | _, _, e, .sl1 i m h f x o r => ⟨hc.off h (fun o z => nomatch z), .sl1 i m (hc.un h (fun o z => nomatch z)) ⟨f, hc.off x (fun o z => nomatch z)⟩ (hc.un x (fun o z => nomatch z)) o (RFs.un hc (by simpa [nclo] using e) r)⟩
end
end
end Pf

set_option Elab.async false
set_option linter.all false
set_option maxRecDepth 100000
set_option maxHeartbeats 1000000
/-! ## A function made within a function is called by a name that holds it -/
namespace Pf
open PySem L2 NdefX LamX
theorem nclos_get : ∀ {l : List D} {i : Nat} {d : D}, nclos l = true → l[i]? = some d → nclo d = true
  | [], _, _, _, e => by simp at e
  | a :: l, 0, _, h, e => by simp [nclos] at h e; subst e; exact h.1
  | a :: l, i + 1, _, h, e => by simp [nclos] at h e; exact nclos_get h.2 e
section
variable {X : Cx} {G : Gx} {ck : Ck} {k : Nat} {Wx : WX} {σ : St} {H : Hp} {M : Mp} {h : Hh} {pins : List (Addr × Obj)} {s : Shared}
theorem fnAt_cl {f c : Addr} {C : Cl} {cl : List (Str × Addr)} (I : Inv X pins σ H s) (e : H f = some (ClO f C cl c)) : PySem.W.FnAt f s.heap := by
  obtain ⟨⟨od, sl, fd, ho, _⟩, _, _⟩ := I.hok f _ e
  exact ⟨_, od, _, sl, ho⟩
theorem RL.un {cs : Cs} (rl : RL G h M H) (hc : HasC H cs) (nh : nclos h = true) : RL G h (M.un cs) (unl H cs) where
  len := rl.len
  at_ := fun i o e => by
    obtain ⟨a, ha, ro⟩ := rl.at_ i o e
    exact ⟨a, ha, (ro.un hc (nclos_get nh e)).2⟩
  nd := rl.nd
  off := fun a ha z => rl.off a ha z.1
  fz := fun a z => by
    obtain ⟨o, e, y⟩ := rl.fz a z.1
    exact ⟨o, by rw [unl_n z.2]; exact e, y⟩
  tb := fun q hq => by
    obtain ⟨ps, h1, h2, h3⟩ := rl.tb q hq
    refine ⟨ps, hc.un h1 (fun o z => nomatch z), h2, fun pos cv e => ?_⟩
    obtain ⟨c, e1, e2, e3⟩ := h3 pos cv e
    exact ⟨c, e1, ⟨e2, hc.off e3 (fun o z => nomatch z)⟩, hc.un e3 (fun o z => nomatch z)⟩
/-- behind a run that did not know the cells -/
theorem back_ov {cs : Cs} {M' : Mp} {H' : Hp} {h' : Hh} (gk : Gk G) (hc : HasC H cs) (hF : ∀ b o, cs.lookup b = some o → M.F b) (hn : ∀ b o, cs.lookup b = some o → H' b = none) (e : Ext (M.un cs) (unl H cs) M' H') (rl : RL G h' M' H') :
    Ext M H (M'.ov cs) (ovl H' cs) ∧ RL G h' (M'.ov cs) (ovl H' cs) ∧ Keep M' H' (M'.ov cs) (ovl H' cs) := by
  have up : ∀ a o, H' a = some o → ovl H' cs a = some o := fun a o z => by
    cases q : cs.lookup a with
    | some o' => rw [hn a o' q] at z; cases z
    | none => rw [ovl_n q]; exact z
  have kp : Keep M' H' (M'.ov cs) (ovl H' cs) := ⟨fun a z => ⟨.inl z, fun o e => up a o e⟩, fun _ _ w => w⟩
  refine ⟨⟨fun b u q nb y => ?_, fun b q => ?_, fun b z => ?_, ?_, fun b z => ?_⟩, ⟨rl.len, fun i o q => ?_, rl.nd, fun a ha z => ?_, fun a z => ?_, tb_up (fun c z => .inl z) (fun b ps z => up b _ z) (fun b u z _ => up b u z) rl.tb⟩, kp⟩
  · cases w : cs.lookup b with
    | some o =>
      have := hc b o w
      rw [q] at this
      cases this
      exact ovl_c w
    | none =>
      rw [ovl_n w]
      exact e.keep b u (by rw [unl_n w]; exact q) nb y
  · cases w : cs.lookup b with
    | some o => rw [ovl_c w] at q; cases q
    | none =>
      rw [ovl_n w] at q
      have := e.trk b q
      rw [unl_n w] at this
      exact this
  · cases w : cs.lookup b with
    | some o => exact .inr ⟨o, w⟩
    | none => exact .inl (e.fz b ⟨z, w⟩)
  · obtain ⟨l, p1, p2⟩ := e.pre
    refine ⟨l, p1, fun b hb => ?_⟩
    have := p2 b hb
    cases w : cs.lookup b with
    | some o =>
      obtain ⟨u, hu, _⟩ := rl.tracked (a := b) (by rw [p1]; exact List.mem_append_right _ hb)
      rw [hn b o w] at hu; cases hu
    | none => rw [unl_n w] at this; exact this
  · rcases z with z | ⟨o, w⟩
    · rcases e.newF b z with q | q | q | ⟨y, q1, q2⟩
      · exact .inl q.1
      · exact .inr (.inl q)
      · cases w : cs.lookup b with
        | some o => exact .inl (hF b o w)
        | none => rw [unl_n w] at q; exact .inr (.inr (.inl q))
      · cases w : cs.lookup b with
        | some o => exact .inl (hF b o w)
        | none => rw [unl_n w] at q1; exact .inr (.inr (.inr ⟨y, q1, q2⟩))
    · exact .inl (hF b o w)
  · obtain ⟨a, ha, ro⟩ := rl.at_ i o q
    exact ⟨a, ha, ro.keep gk kp fun u z => up a u z⟩
  · rcases z with z | ⟨o, w⟩
    · exact rl.off a ha z
    · obtain ⟨u, hu, _⟩ := rl.tracked ha
      rw [hn a o w] at hu; cases hu
  · rcases z with z | ⟨o, w⟩
    · obtain ⟨u, e, y⟩ := rl.fz a z
      exact ⟨u, up a u e, y⟩
    · exact ⟨_, ovl_c w, trivial⟩
theorem run_clo (C : Cok X G ck k Wx) {i : Nat} {xs : List V} {f : Addr} {F : Fsem} {ds cs : List D} {us : List Value} {vs : List V} {Qv : VK} (hc : hcD G.ct M.F H i xs (.ref f))
    (Fn : ∀ Cc, G.ct[i]? = some Cc → ∃ ps : List Str, ps.length = ds.length ∧ ∀ f cl c, COk X.prog X.w X.K X.mg X.base (L2.CX X.prog X.w) k f Cc cl c ps (spC G ps.length F))
    (I : Inv X pins σ H s) (r : Vals vs us) (rl : RL G h M H) (rd : RVs G M H ds vs) (rc : RVs G M H cs xs) (nd : nclos ds = true) (nc : nclos cs = true) (nh : nclos h = true) (kq : KG (RV G) G Wx σ M H Qv (noX (F (ds ++ cs) h))) :
    wpAny (model X.prog X.w) X.A (call (.ref f) us) (EP X pins σ Qv) X.xe s := by
  obtain ⟨Cc, f', c, cl, cs', e1, e2, f1, f2, h1, h2, h3, h4⟩ := hc
  cases e2
  obtain ⟨ps, hps, Fn⟩ := Fn Cc e1
  have hcs : HasC H cs' := fun b o e => (h3 b o e).2
  have hh : ∀ b o, cs'.lookup b = some o → s.heap.get? b = some o := fun b o e => (I.hok b _ (hcs b o e)).1
  have E := I.env0
  have env0 : Env0 X.prog X.w X.K X.mg X.base X.A X.stack s (unl H cs') := ⟨E.frames, E.mod, fun b o e => ⟨(E.bs b o e).1, by
      cases q : cs'.lookup b with
      | some o' => exact unl_c q
      | none => rw [unl_n q]; exact (E.bs b o e).2⟩, E.bsz, E.funs, fun b hb => by
      cases q : cs'.lookup b with
      | some o' => exact unl_c q
      | none => rw [unl_n q]; exact E.frf b hb,
    hok_unl E.hok (fun b o q x z => by rw [hcs b o q] at z; cases z) (fun b o q xs z => by rw [hcs b o q] at z; cases z), E.bare⟩
  cases q : F (ds ++ cs) h with
  | no => rw [q] at kq; exact kq.elim
  | exc cc fs h' => rw [q] at kq; exact kq.elim
  | ok d h' =>
    rw [q] at kq
    have sp : spC G ps.length F (xs.map some) vs (unl H cs') (fun v H' => ∃ M', Ext (M.un cs') (unl H cs') M' H' ∧ RL G h' M' H' ∧ RV G M' H' d v) (fun _ _ _ => False) :=
      ⟨xs, ds, cs, h, M.un cs', rfl, hps.symm, rl.un hcs nh, rd.un hcs nd, rc.un hcs nc, by rw [q]; exact fun v M' H' e rl rv => ⟨M', e, rl, rv⟩⟩
    refine wpAny_call (codeAny_mono ((Fn f cl c).run X.A X.stack s (unl H cs') us vs (xs.map some) _ _ (C.room.mono (by omega)) env0 (hcs.un h1 (fun o z => nomatch z)) (hcs.un h2 (fun o z => nomatch z)) (h4.at hh) r sp) fun r s' hq => ?_)
    cases r with
    | error e =>
      obtain ⟨_, _, _, _, _, _, _, _, _, _, _, _, z⟩ := hq
      exact z.elim
    | ok fl =>
      cases fl with
      | ret u =>
        obtain ⟨v, H', os, bare, un, hok, rv, M', e, rl', rvd⟩ := hq
        have hn : ∀ b o, cs'.lookup b = some o → H' b = none := fun b o q => un.free b o (hh b o q) (unl_c q) (by simp)
        have nfr : ∀ b o, cs'.lookup b = some o → b ∉ frs X.stack := fun b o q z => by
          have := E.frf b z
          rw [hcs b o q] at this; cases this
        have hk : ∀ b o, cs'.lookup b = some o → s'.heap.get? b = some o := fun b o q => un.keep b o (hh b o q) (unl_c q) (nfr b o q) (by simp)
        have no : ∀ b, H b = none → cs'.lookup b = none := fun b z => by
          cases w : cs'.lookup b with
          | none => rfl
          | some o => rw [hcs b o w] at z; cases z
        obtain ⟨e2, rl2, kp⟩ := back_ov (H := H) C.gk hcs (fun b o q => (h3 b o q).1) hn e rl'
        refine I.after ⟨v, ovl H' cs', os, bare, ⟨fun b o z n hb hx => un.keep b o z (by rw [unl_n (no b n)]; exact n) hb hx, fun b o z n hb hx => un.slot b o z (by rw [unl_n (no b n)]; exact n) hb hx, fun b o z n hx => ?_, un.there, fun b ys z => ?_, fun b o u z => ?_, fun b ps z => ?_⟩, hok_ovl hok hk hn, rv, kq v _ _ e2 rl2 (rvd.keep C.gk kp)⟩
        · rw [ovl_n (no b n)]
          exact un.free b o z (by rw [unl_n (no b n)]; exact n) hx
        · have w := hcs.off z (fun o z => nomatch z)
          rw [ovl_n w]
          exact un.tups b ys (by rw [unl_n w]; exact z)
        · cases w : cs'.lookup b with
          | some o' =>
            have := hcs b o' w
            rw [z] at this
            rw [ovl_c w, ← this]
          | none =>
            rw [ovl_n w]
            exact un.frzs b o u (by rw [unl_n w]; exact z)
        · have w := hcs.off z (fun o z => nomatch z)
          rw [ovl_n w]
          exact un.tbls b ps (by rw [unl_n w]; exact z)
      | next => exact False.elim hq
      | brk => exact False.elim hq
      | cont => exact False.elim hq
end
end Pf

set_option Elab.async false
set_option linter.all false
set_option maxRecDepth 100000
set_option maxHeartbeats 1000000
/-! ## f(..), f a name of the def that holds a function -/
namespace Pf
open PySem L2 NdefX LamX
/-- what is known of all functions that are made within functions; CA: how many arguments they take -/
def ClvL (t : Tb) (CF : Nat → Fsem) (CA : Nat → Nat) : Prop := t.G.hc = hcD t.G.ct ∧ ∀ i C, t.G.ct[i]? = some C → ∃ ps : List Str, ps.length = CA i ∧ ∀ f cl c, COk t.P t.w t.G.K t.G.mg t.base (L2.CX t.P t.w) t.k f C cl c ps (spC t.G ps.length (CF i))
def GdsL (t : Tb) (GF : Nat → Option Fsem) : Prop := ∀ x F, GF x = some F → FnL t (t.G.gn x) F
def callvB (j : Nat) (xs : List Xp) (ck : Ck) (a : Expr) : Bool := match a with
  | .Call (.Name x p) (e :: es) [] q => varB j ck (.Name x p) && okA xs ck (e :: es)
  | _ => false
theorem callvB_some {j : Nat} {xs : List Xp} {ck : Ck} {a : Expr} (h : callvB j xs ck a = true) : ∃ x p e es q, a = .Call (.Name x p) (e :: es) [] q ∧ varB j ck (.Name x p) = true ∧ okA xs ck (e :: es) = true := by
  unfold callvB at h
  split at h
  · simp only [Bool.and_eq_true] at h
    exact ⟨_, _, _, _, _, rfl, h.1, h.2⟩
  · cases h
def callvS (CF : Nat → Fsem) (CA : Nat → Nat) (GF : Nat → Option Fsem) (j : Nat) (xs : List Xp) (r : Rho) (h : Hh) : Res D := match r[j]? with
  | some (.pl (.clo i l)) => (semA xs r h).bind fun ds h1 => if nclos ds && nclos l && nclos h1 && decide (ds.length = CA i) then noX (CF i (ds ++ l) h1) else .no
  | some (.pl (.gl x)) => (match GF x with
    | some F => (semA xs r h).bind fun ds h1 => F ds h1
    | none => .no)
  | _ => .no
def Xp.callv (CF : Nat → Fsem) (CA : Nat → Nat) (GF : Nat → Option Fsem) (j : Nat) (xs : List Xp) : Xp where
  sem := callvS CF CA GF j xs
  ok := callvB j xs
  need t := ClvL t CF CA ∧ GdsL t GF ∧ needA xs t
  star _ a h := by obtain ⟨_, _, _, _, _, rfl, _⟩ := callvB_some h; rfl
  snd {X G ck k Wx a} C h n := by
    obtain ⟨x, p, e, es, q, rfl, hv, ho⟩ := callvB_some h
    obtain ⟨⟨hcD', nC⟩, nG, nA⟩ := n
    have hA := sndA xs C ho nA
    have hst := okA_star ho
    simp only [List.all_cons, Bool.and_eq_true] at hst
    refine ⟨fun pins s σ H Qv I ⟨r, hh, M, rl, re, k⟩ => ?_⟩
    unfold callvS at k
    split at k
    · rename_i i l er
      obtain ⟨v, e1, rv⟩ := re.pl j _ er
      refine wpAny_Call_Name_kw (thn ((pe_varB C hv).run pins s σ H (fun v' H1 => v' = v ∧ H1 = H) I ⟨v, e1, rfl, rfl⟩) fun u s1 ⟨v', H1, I1, r1, ev, eH⟩ => ?_)
      subst ev eH
      cases rv with
      | clo hc rc =>
        rename_i ws
        have hc' : hcD G.ct M.F H1 i ws v' := by
          have := congrFun (congrFun (congrFun (congrFun (congrFun hcD' M.F) H1) i) ws) v'
          rw [← this]; exact hc
        obtain ⟨Cc, f, c, cl, cs', g1, g2, f1, f2, h1, h2, h3, h4⟩ := id hc'
        subst g2
        obtain rfl : u = Value.ref f := r1
        refine PySem.W.callWith_F (first := []) (fnAt_cl I1 h1) (thn (hA.run q pins s1 σ H1 (fun vs H2 => ∃ ds h1 M1, Ext M H1 M1 H2 ∧ RL G h1 M1 H2 ∧ RVs G M1 H2 ds vs ∧ KG (RV G) G Wx σ M1 H2 Qv (if nclos ds && nclos l && nclos h1 && decide (ds.length = CA i) then noX (CF i (ds ++ l) h1) else .no)) I1 ⟨r, hh, M, rl, re, one k fun d v h1 M1 H1 e1 r1 b1 k1 => ⟨d, h1, M1, e1, r1, b1, k1⟩⟩) fun us s2 ⟨vs, H2, I2, rv, ds, hh1, M1, ex, rl1, rd, k1⟩ => ?_) (star_cons hst.1 _) (stars_of hst.2)
        have kp := ex.kp rl
        have hc2 := hcD_keep kp.k i ws (.ref f) hc'
        split at k1
        · rename_i hb
          simp only [Bool.and_eq_true, decide_eq_true_eq] at hb
          obtain ⟨⟨⟨b1, b2⟩, b3⟩, b4⟩ := hb
          refine ⟨fnAt_cl I2 ((kp.k f f1).2 _ h1), ?_⟩
          exact run_clo C hc2 (fun Cc hC => by
            obtain ⟨ps, p1, p2⟩ := nC i Cc hC
            refine ⟨ps, by rw [p1, b4], fun f cl c => ?_⟩
            have := p2 f cl c
            dsimp only at this
            rw [C.hK, C.hmg] at this
            exact this) I2 rv rl1 rd (rc.keep C.gk kp) b1 b2 b3 k1
        · exact k1.elim
    · rename_i y er
      obtain ⟨v, e1, rv⟩ := re.pl j _ er
      refine wpAny_Call_Name_kw (thn ((pe_varB C hv).run pins s σ H (fun v' H1 => v' = v ∧ H1 = H) I ⟨v, e1, rfl, rfl⟩) fun u s1 ⟨v', H1, I1, r1, ev, eH⟩ => ?_)
      subst ev eH
      obtain ⟨a, rfl, hm⟩ : ∃ a, v' = .ref a ∧ G.mg (G.gn y) = some (.ref a) := by cases rv with | gl hm => exact ⟨_, rfl, hm⟩
      · obtain rfl : u = Value.ref a := r1
        cases hg : GF y with
        | none =>
          rw [hg] at k; exact k.elim
        | some F =>
          rw [hg] at k
          obtain ⟨af, fd, ps, hm2, kp, hb, Fo⟩ := nG y F hg
          dsimp only at hm2 kp hb Fo
          rw [hm] at hm2
          cases hm2
          rw [C.hK, C.hmg] at Fo
          rw [C.hK] at hb kp
          exact PySem.W.callWith_K (h₀ := X.base) I.ok.mod.kin kp (thn (hA.run q pins s1 σ H1 (fun vs H1' => ∃ ds h1 M1, Ext M H1 M1 H1' ∧ RL G h1 M1 H1' ∧ RVs G M1 H1' ds vs ∧ KG (RV G) G Wx σ M1 H1' Qv (F ds h1)) I1 ⟨r, hh, M, rl, re, one k fun d v h1 M1 H1 e1 r1 b1 k1 => ⟨d, h1, M1, e1, r1, b1, k1⟩⟩) fun us s2 ⟨vs, H2, I2, rv, ds, h1, M1, e1, r1, rd, w1⟩ => ⟨I2.kIn, run_L C Fo hb I2 rv r1 rd w1⟩) (star_cons hst.1 _) (stars_of hst.2)
    · exact k.elim
end Pf

set_option Elab.async false
set_option linter.all false
set_option maxRecDepth 100000
set_option maxHeartbeats 1000000
/-! ## A function is made within a function -/
namespace Pf
open PySem L2 NdefX LamX
/-- the frame's code object, its table -/
structure Mkr (X : Cx) (G : Gx) (q : Str) (c P : Addr) (nm : Nat → Nat → Str) : Prop where
  qual : X.env.qual = q
  code : X.env.code = .ref c
  tab : TabB X.base X.mg c P
  mem : (P, nm) ∈ G.T
  uni : ∀ p ∈ G.T, p.1 = P → p.2 = nm
section
variable {X : Cx} {G : Gx} {M : Mp} {H : Hp} {h : Hh} {σ : St} {pins : List (Addr × Obj)} {s : Shared}
/-- a new function object, its code object known -/
theorem made_fn (gk : Gk G) {f : Addr} {o : HO} (rl : RL G h M H) (hf : H f = none) (ho : Stl o) : Ext M H (M.fr f) (upd H f o) ∧ RL G h (M.fr f) (upd H f o) := ⟨Ext.newF' hf, rl.newF gk hf ho⟩
/-- a new code object, the table longer -/
theorem made_tb (gk : Gk G) {P c : Addr} {nm : Nat → Nat → Str} {pos : Pos} {ps : Array Value} {q : Str} (rl : RL G h M H) (uni : ∀ p ∈ G.T, p.1 = P → p.2 = nm) (hP : H P = some (.tbl ps)) (ht : TriplesOk ps.toList) (hc : H c = none) (hq : nm pos.line pos.col = q)
    (ha : ∀ (pos : Pos) (cv : Value), codeAmong pos ps.toList = some cv → ∃ c, cv = .ref c ∧ M.F c ∧ H c = some (CodeO c (nm pos.line pos.col))) :
    Ext M H (M.fr c) (upd (upd H P (.tbl (ps ++ #[rawInt pos.line, rawInt pos.col, .ref c]))) c (CodeO c q)) ∧ RL G h (M.fr c) (upd (upd H P (.tbl (ps ++ #[rawInt pos.line, rawInt pos.col, .ref c]))) c (CodeO c q)) := by
  have hPc : P ≠ c := ne_of_none hP hc
  have up : ∀ b u, H b = some u → Stl u → upd (upd H P (.tbl (ps ++ #[rawInt pos.line, rawInt pos.col, .ref c]))) c (CodeO c q) b = some u := fun b u e y => by
    have n1 : b ≠ c := ne_of_none e hc
    have n2 : b ≠ P := fun z => by subst z; rw [hP] at e; cases e; exact y
    rw [upd_ne n1, upd_ne n2]; exact e
  have ot : ∀ b, b ≠ P → b ≠ c → upd (upd H P (.tbl (ps ++ #[rawInt pos.line, rawInt pos.col, .ref c]))) c (CodeO c q) b = H b := fun b n1 n2 => by rw [upd_ne n2, upd_ne n1]
  have eL : (ps ++ #[rawInt pos.line, rawInt pos.col, .ref c]).toList = ps.toList ++ [rawInt pos.line, rawInt pos.col, .ref c] := by simp
  have kp : Keep M H (M.fr c) (upd (upd H P (.tbl (ps ++ #[rawInt pos.line, rawInt pos.col, .ref c]))) c (CodeO c q)) := ⟨fun b z => ⟨.inl z, fun o e => by
    obtain ⟨u, e', y⟩ := rl.fz b z
    rw [e] at e'; cases e'
    exact up b o e y⟩, fun _ _ w => w⟩
  refine ⟨⟨fun b u e nb y => up b u e y, fun b e => ?_, fun b z => .inl z, ⟨[], by simp [Mp.fr], by simp⟩, fun b z => ?_⟩, ⟨rl.len, fun i o e => ?_, rl.nd, fun b hb z => ?_, fun b z => ?_, fun p hp => ?_⟩⟩
  · by_cases n2 : b = c
    · subst n2; exact hc
    by_cases n1 : b = P
    · subst n1; rw [upd_ne n2, upd_same] at e; cases e
    rw [ot b n1 n2] at e; exact e
  · rcases z with z | z
    · exact .inl z
    · subst z; exact .inr (.inr (.inl hc))
  · obtain ⟨a, ha', ro⟩ := rl.at_ i o e
    obtain ⟨u, hu, hy⟩ := ro.some
    exact ⟨a, ha', ro.keep gk kp fun w z => up a w z (by rw [hu] at z; cases z; exact hy)⟩
  · rcases z with z | z
    · exact rl.off b hb z
    · subst z; exact rl.free hc hb
  · rcases z with z | z
    · obtain ⟨u, e, y⟩ := rl.fz b z
      exact ⟨u, up b u e y, y⟩
    · subst z; exact ⟨_, upd_same, trivial⟩
  · by_cases hb : p.1 = P
    · refine ⟨_, by rw [hb, upd_ne hPc, upd_same], by rw [eL]; exact PySem.TriplesOk_snoc _ _ _ _ ht, fun p' cv hcv => ?_⟩
      rw [eL] at hcv
      rw [uni p hp hb]
      rcases among_app2 _ ht hcv with z | ⟨z, z1, z2⟩
      · obtain ⟨c0, e1, e2, e3⟩ := ha p' cv z
        exact ⟨c0, e1, .inl e2, up c0 _ e3 trivial⟩
      · refine ⟨c, z, .inr rfl, ?_⟩
        rw [← z1, ← z2, hq]
        exact upd_same
    · obtain ⟨ps', a1, a2, a3⟩ := rl.tb p hp
      refine ⟨ps', by rw [ot p.1 hb (ne_of_none a1 hc)]; exact a1, a2, fun p' cv hcv => ?_⟩
      obtain ⟨c0, e1, e2, e3⟩ := a3 p' cv hcv
      exact ⟨c0, e1, .inl e2, up c0 _ e3 trivial⟩
def Bd.fb : Bd → FuncBody
  | .st b => .stmts b
  | .ex e => .expr e
theorem inv_cl {C : Cl} {cl : List (Str × Addr)} {c : Addr} {fd : FuncData} {t' : Nat} {h' : Heap} {d : Drawn} (I : Inv X pins σ H { s with heap := h', toks := t' }) (hfd : C.is cl c fd) :
    Inv X pins σ (upd H h'.objs.size (ClO h'.objs.size C cl c)) { s with heap := h'.push { cls := .type "function", data := .func fd }, toks := t' } := by
  refine I.laid (s := { s with heap := h', toks := t' }) (a := h'.objs.size) (t' := t') (fun b u e => Heap.get?_push_of_some _ e) (Nat.le_refl _) ?_
  have e : (h'.push ({ cls := .type "function", data := .func fd } : Obj)).get? h'.objs.size = some ({ cls := .type "function", data := .func fd } : Obj) := Heap.get?_push_size _ rfl
  exact ⟨⟨_, _, fd, e, hfd⟩, ⟨_, e⟩, fun h1 h2 ⟨od, sl, fd, z, y⟩ st => ⟨od, sl, fd, st _ z, y⟩⟩
theorem made (gk : Gk G) {q : Str} {c P : Addr} {nm : Nat → Nat → Str} (mk : Mkr X G q c P nm) (C : Cl) {pos : Pos} (hq : C.qual = q ++ C.name) (hpos : nm pos.line pos.col = C.qual) (hfree : ∀ y ∈ C.scope.names, y.2 = .free → ∃ c, X.env.cells.lookup y.1 = some c)
    (I : Inv X pins σ H s) (rl : RL G h M H) {E : Value → Shared → Prop} {Q : Value → Shared → Prop}
    (hQ : ∀ f c' M1 H1 s', Inv X pins σ H1 s' → Ext M H M1 H1 → RL G h M1 H1 → M1.F f → M1.F c' → H1 f = some (ClO f C (cloFrom X.env.cells C.scope.names []) c') → H1 c' = some (CodeO c' C.qual) → Q (.ref f) s') :
    wpAny (model X.prog X.w) X.A (makeFunction C.name (X.env.qual ++ C.name) C.params C.body.fb C.scope X.env [] [] [] pos pos.line) Q E s := by
  obtain ⟨ps, hP, ht, ha⟩ := rl.tb _ mk.mem
  dsimp only at hP ha
  have bP : s.heap.BuiltinsAt X.mg P := mk.tab.bm.keeps I.bk
  have hP' : s.heap.get? P = some { cls := .none, data := .fields ps } := I.hok P _ hP
  have eq : X.env.qual ++ C.name = C.qual := by rw [mk.qual, hq]
  rw [eq]
  -- the function's object, its code object at c'
  have fin : ∀ {M1 : Mp} {H1 : Hp} {h' : Heap} {tk : Nat} {c' : Addr} {fd : FuncData}, Inv X pins σ H1 { s with heap := h', toks := tk } → Ext M H M1 H1 → RL G h M1 H1 → M1.F c' → H1 c' = some (CodeO c' C.qual) → C.is (cloFrom X.env.cells C.scope.names []) c' fd →
      Q (.ref h'.objs.size) { s with heap := h'.push { cls := .type "function", data := .func fd }, toks := tk } := by
    intro M1 H1 h' tk c' fd I1 e1 r1 f1 hc1 hfd
    have nF : H1 h'.objs.size = none := I1.hok.fresh (Nat.le_refl _)
    obtain ⟨e2, r2⟩ := made_fn gk (o := ClO h'.objs.size C (cloFrom X.env.cells C.scope.names []) c') r1 nF trivial
    exact hQ _ c' _ _ _ (inv_cl (d := s.drawn) I1 hfd) (e1.trans e2) r2 (.inr rfl) (.inl f1) upd_same ((upd_ne (ne_of_none hc1 nF)).trans hc1)
  cases hc : codeAmong pos ps.toList with
  | none =>
    have go : ∀ {c' : Addr} {h' : Heap} {tk : Nat} {fd : FuncData}, Heap.ExtBut P s.heap h' → s.heap.objs.size ≤ c' → h'.CodeRec (.ref c') C.qual → h'.get? P = some { cls := .none, data := .fields (ps ++ #[rawInt pos.line, rawInt pos.col, .ref c']) } → C.is (cloFrom X.env.cells C.scope.names []) c' fd →
        Q (.ref h'.objs.size) { s with heap := h'.push { cls := .type "function", data := .func fd }, toks := tk } := by
      intro c' h' tk fd hx hge hrec htb hfd
      obtain ⟨c2, oc, vs, t, e2, hoc, hd, hv⟩ := hrec
      cases e2
      have nC : H c' = none := I.hok.fresh hge
      have I1 := inv_table (t' := tk) (more := #[rawInt pos.line, rawInt pos.col, .ref c']) (h' := h') I hP (fun b o hb e => hx b o hb e) htb hge ⟨oc, vs, t, hoc, hd, hv⟩
      obtain ⟨e1, r1⟩ := made_tb gk (pos := pos) (q := C.qual) rl mk.uni hP ht nC hpos ha
      exact fin I1 e1 r1 (.inr rfl) upd_same hfd
    cases hb : C.body with
    | st b => exact PySem.W.makeFunction_K (mg := X.mg) (c := c) (P := P) (ps := ps) (closure_ok hfree) I.ok.glob (I.mod.glob.keeps I.bk) mk.code (mk.tab.code.keeps I.bk) hP' ht hc mk.tab.gP bP fun c' ctv doc h' tk hx hge hlt hrec htb => go hx hge hrec htb (by unfold Cl.is; rw [hb]; exact ⟨doc, _, ctv, rfl⟩)
    | ex b => exact PySem.W.kla_makeFunction (mg := X.mg) (c := c) (P := P) (ps := ps) (closure_ok hfree) I.ok.glob (I.mod.glob.keeps I.bk) mk.code (mk.tab.code.keeps I.bk) hP' ht hc mk.tab.gP bP fun c' ctv h' tk hx hge hlt hrec htb => go hx hge hrec htb (by unfold Cl.is; rw [hb]; exact ⟨_, ctv, rfl⟩)
  | some cv =>
    obtain ⟨c', e, hF, hco⟩ := ha pos cv hc
    subst e
    rw [hpos] at hco
    cases hb : C.body with
    | st b => exact PySem.W.makeFunction_hit (mg := X.mg) (c := c) (P := P) (ps := ps) (closure_ok hfree) I.ok.glob (I.mod.glob.keeps I.bk) mk.code (mk.tab.code.keeps I.bk) hP' ht hc bP fun ctv doc h' tk hx hsz => fin (I.kept hx) Ext.refl rl hF hco (by unfold Cl.is; rw [hb]; exact ⟨doc, _, ctv, rfl⟩)
    | ex b => exact PySem.W.kla_makeFunctionHit (mg := X.mg) (c := c) (P := P) (ps := ps) (closure_ok hfree) I.ok.glob (I.mod.glob.keeps I.bk) mk.code (mk.tab.code.keeps I.bk) hP' ht hc bP fun ctv h' tk hx hsz => fin (I.kept hx) Ext.refl rl hF hco (by unfold Cl.is; rw [hb]; exact ⟨_, ctv, rfl⟩)
end
end Pf

set_option Elab.async false
set_option linter.all false
set_option maxRecDepth 100000
set_option maxHeartbeats 1000000
/-! ## A def is called with functions that were made here -/
namespace Pf
open PySem L2 NdefX LamX
/-- no function comes out, nothing is raised -/
def clean : Res D → Res D
  | .ok d h => if nclo d && nclos h then .ok d h else .no
  | _ => .no
/-- a function made in this frame -/
def MadeAt (X : Cx) (G : Gx) (M : Mp) (H : Hp) (σ : St) (i : Nat) (l : List D) (v : V) : Prop := ∃ (C : Cl) (f c : Addr) (xs : List V) (js : List Nat), G.ct[i]? = some C ∧ v = .ref f ∧ M.F f ∧ M.F c ∧ H f = some (ClO f C (cloFrom X.env.cells C.scope.names []) c) ∧ H c = some (CodeO c C.qual) ∧
  RVs G M H l xs ∧ js.map (fun j => X.N[j]?) = C.fr.map some ∧ js.map (slotAt σ) = xs.map some ∧ (∀ y ∈ C.scope.names, y.2 = .free → X.env.scope.names.lookup y.1 = some .cell ∨ X.env.scope.names.lookup y.1 = some .free) ∧ ∀ y ∈ C.fr, (y, NameKind.free) ∈ C.scope.names
inductive RAs (X : Cx) (G : Gx) (M : Mp) (H : Hp) (σ : St) : List D → List V → Prop
  | nil : RAs X G M H σ [] []
  | pl {d : D} {v : V} {l : List D} {xs : List V} : RV G M H d v → RAs X G M H σ l xs → RAs X G M H σ (d :: l) (v :: xs)
  | cl {i : Nat} {cs : List D} {v : V} {l : List D} {xs : List V} : MadeAt X G M H σ i cs v → RAs X G M H σ l xs → RAs X G M H σ (.clo i cs :: l) (v :: xs)
theorem cells_list {h : Heap} : ∀ (L : List Addr), (∀ c ∈ L, ∃ o, h.get? c = some o) → ∃ cs : Cs, (∀ b o, cs.lookup b = some o → b ∈ L ∧ h.get? b = some o) ∧ ∀ c ∈ L, ∃ o, cs.lookup c = some o
  | [], _ => ⟨[], fun b o e => by simp at e, fun c hc => by cases hc⟩
  | c :: L, hL => by
    obtain ⟨cs, h1, h2⟩ := cells_list L fun b hb => hL b (List.mem_cons_of_mem _ hb)
    obtain ⟨o, ho⟩ := hL c List.mem_cons_self
    refine ⟨(c, o) :: cs, fun b o' e => ?_, fun b hb => ?_⟩
    · rw [List.lookup_cons] at e
      cases q : b == c with
      | true =>
        rw [q] at e; cases e
        rw [eq_of_beq q]
        exact ⟨List.mem_cons_self, ho⟩
      | false =>
        rw [q] at e
        exact ⟨List.mem_cons_of_mem _ (h1 b o' e).1, (h1 b o' e).2⟩
    · rw [List.lookup_cons]
      cases q : b == c with
      | true => exact ⟨o, rfl⟩
      | false =>
        rcases List.mem_cons.mp hb with rfl | hb
        · simp at q
        · exact h2 b hb
section
variable {X : Cx} {G : Gx} {ck : Ck} {k : Nat} {Wx : WX} {σ : St} {H : Hp} {M : Mp} {h : Hh} {pins : List (Addr × Obj)} {s : Shared}
/-- the frame's cells -/
theorem frame_cells (I : Inv X pins σ H s) : ∃ cs : Cs, (∀ b o, cs.lookup b = some o → (∃ x, X.env.cells.lookup x = some b) ∧ s.heap.get? b = some o ∧ ∃ v, o.data = .cell v) ∧ ∀ x c, X.env.cells.lookup x = some c → ∃ o, cs.lookup c = some o := by
  obtain ⟨cs, h1, h2⟩ := cells_list (h := s.heap) ((X.env.cells.filter fun p => X.env.cells.lookup p.1 == some p.2).map (·.2)) (fun c hc => by
    obtain ⟨p, hp, rfl⟩ := List.mem_map.mp hc
    obtain ⟨_, hp2⟩ := List.mem_filter.mp hp
    obtain ⟨v, o, ho, _⟩ := I.cell p.1 p.2 (by simpa using hp2)
    exact ⟨o, ho⟩)
  refine ⟨cs, fun b o e => ?_, fun x c e => ?_⟩
  · obtain ⟨hm, ho⟩ := h1 b o e
    obtain ⟨p, hp, rfl⟩ := List.mem_map.mp hm
    obtain ⟨_, hp2⟩ := List.mem_filter.mp hp
    obtain ⟨v, o', ho', hd⟩ := I.cell p.1 p.2 (by simpa using hp2)
    rw [ho] at ho'; cases ho'
    exact ⟨⟨p.1, by simpa using hp2⟩, ho, v, hd⟩
  · exact h2 c (List.mem_map.mpr ⟨(x, c), List.mem_filter.mpr ⟨PySem.mem_of_lookup e, by simpa using e⟩, rfl⟩)
theorem RL.ov {cs : Cs} (gk : Gk G) (rl : RL G h M H) (hn : ∀ b o, cs.lookup b = some o → H b = none) : RL G h (M.ov cs) (ovl H cs) ∧ Keep M H (M.ov cs) (ovl H cs) := by
  have up : ∀ a o, H a = some o → ovl H cs a = some o := fun a o z => by
    cases q : cs.lookup a with
    | some o' => rw [hn a o' q] at z; cases z
    | none => rw [ovl_n q]; exact z
  have kp : Keep M H (M.ov cs) (ovl H cs) := ⟨fun a z => ⟨.inl z, fun o e => up a o e⟩, fun _ _ w => w⟩
  refine ⟨⟨rl.len, fun i o q => ?_, rl.nd, fun a ha z => ?_, fun a z => ?_, tb_up (fun c z => .inl z) (fun b ps z => up b _ z) (fun b u z _ => up b u z) rl.tb⟩, kp⟩
  · obtain ⟨a, ha, ro⟩ := rl.at_ i o q
    exact ⟨a, ha, ro.keep gk kp fun u z => up a u z⟩
  · rcases z with z | ⟨o, w⟩
    · exact rl.off a ha z
    · obtain ⟨u, hu, _⟩ := rl.tracked ha
      rw [hn a o w] at hu; cases hu
  · rcases z with z | ⟨o, w⟩
    · obtain ⟨u, e, y⟩ := rl.fz a z
      exact ⟨u, up a u e, y⟩
    · exact ⟨_, ovl_c w, trivial⟩
/-- behind a run that knew the cells -/
theorem back_un {cs : Cs} {M' : Mp} {H' : Hp} {h' : Hh} (rl0 : RL G h M H) (hn : ∀ b o, cs.lookup b = some o → H b = none) (hc : HasC H' cs) (e : Ext (M.ov cs) (ovl H cs) M' H') (rl : RL G h' M' H') (nh : nclos h' = true) :
    Ext M H (M'.un cs) (unl H' cs) ∧ RL G h' (M'.un cs) (unl H' cs) := by
  have no : ∀ b u, H b = some u → cs.lookup b = none := fun b u z => by
    cases w : cs.lookup b with
    | none => rfl
    | some o => rw [hn b o w] at z; cases z
  refine ⟨⟨fun b u q nb y => ?_, fun b q => ?_, fun b z => ?_, ?_, fun b z => ?_⟩, rl.un hc nh⟩
  · have w := no b u q
    rw [unl_n w]
    exact e.keep b u (by rw [ovl_n w]; exact q) nb y
  · cases w : cs.lookup b with
    | some o => exact hn b o w
    | none =>
      rw [unl_n w] at q
      have := e.trk b q
      rw [ovl_n w] at this
      exact this
  · obtain ⟨u, hu, _⟩ := rl0.fz b z
    exact ⟨e.fz b (.inl z), no b u hu⟩
  · obtain ⟨l, p1, p2⟩ := e.pre
    refine ⟨l, p1, fun b hb => ?_⟩
    have := p2 b hb
    cases w : cs.lookup b with
    | some o => exact hn b o w
    | none => rw [ovl_n w] at this; exact this
  · rcases e.newF b z.1 with q | q | q | ⟨y, q1, q2⟩
    · rcases q with q | ⟨o, w⟩
      · exact .inl q
      · rw [z.2] at w; cases w
    · exact .inr (.inl q)
    · rw [ovl_n z.2] at q; exact .inr (.inr (.inl q))
    · rw [ovl_n z.2] at q1; exact .inr (.inr (.inr ⟨y, q1, q2⟩))
theorem RAs.rvs {cs : Cs} (gk : Gk G) (hcG : G.hc = hcD G.ct) (I : Inv X pins σ H s) (kp : Keep M H (M.ov cs) (ovl H cs)) (h1 : ∀ b o, cs.lookup b = some o → (∃ x, X.env.cells.lookup x = some b) ∧ s.heap.get? b = some o ∧ ∃ v, o.data = .cell v) (h2 : ∀ x c, X.env.cells.lookup x = some c → ∃ o, cs.lookup c = some o) :
    ∀ {ds : List D} {vs : List V}, RAs X G M H σ ds vs → RVs G (M.ov cs) (ovl H cs) ds vs
  | _, _, .nil => .nil
  | _, _, .pl r t => .cons (r.keep gk kp) (RAs.rvs gk hcG I kp h1 h2 t)
  | _, _, .cl m t => by
    refine .cons ?_ (RAs.rvs gk hcG I kp h1 h2 t)
    obtain ⟨C, f, c, xs, js, g1, g2, f1, f2, a1, a2, rc, j1, j2, hfr, hfn⟩ := m
    subst g2
    have cp := Caps.made (js := js) I.ok hfr hfn j1
    have ca := cells_of I cp
    rw [j2] at ca
    refine .clo (xs := xs) ?_ (rc.keep gk kp)
    rw [hcG]
    refine ⟨C, f, c, _, cs, g1, rfl, .inl f1, .inl f2, (kp.k f f1).2 _ a1, (kp.k c f2).2 _ a2, fun b o q => ⟨.inr ⟨o, q⟩, ovl_c q⟩, ?_⟩
    refine ⟨by have := ca.len; rwa [List.length_map] at this, fun y b e => ?_, ca.inj, fun n y e => ?_⟩
    · obtain ⟨o, ho⟩ := h2 y b (cp.sub y b e)
      obtain ⟨_, _, v, hv⟩ := h1 b o ho
      exact ⟨o, v, ho, hv⟩
    · obtain ⟨b, hb, hv⟩ := ca.has n y e
      obtain ⟨o, ho⟩ := h2 y b (cp.sub y b hb)
      have hl := ca.len
      rw [List.length_map] at hl
      have hlt : n < xs.length := by rw [hl]; exact (List.getElem?_eq_some_iff.mp e).1
      obtain ⟨u, ru, o', ho', hd⟩ := hv xs[n] (by rw [List.getElem?_map, List.getElem?_eq_getElem hlt]; rfl)
      obtain ⟨_, hg, _⟩ := h1 b o ho
      rw [hg] at ho'; cases ho'
      exact ⟨b, o, u, xs[n], hb, ho, hd, List.getElem?_eq_getElem hlt, ru⟩
theorem run_C (C : Cok X G ck k Wx) (hblk : ck.blk = false) (hcG : G.hc = hcD G.ct) {f : Addr} {fd : FuncData} {ps : List Str} {F : Fsem} {us : List Value} {vs : List V} {ds : List D} {Qv : VK} (Fo : FnOk X.prog X.w X.K X.mg X.base (L2.CX X.prog X.w) k f fd ps (lift G F)) (hb : Binds X.K fd ps [])
    (I : Inv X pins σ H s) (r : Vals vs us) (rl : RL G h M H) (ra : RAs X G M H σ ds vs) (kq : KG (RV G) G Wx σ M H Qv (clean (F ds h))) :
    wpAny (model X.prog X.w) X.A (call (.ref f) us) (EP X pins σ Qv) X.xe s := by
  obtain ⟨cs, h1, h2⟩ := frame_cells I
  have hn : ∀ b o, cs.lookup b = some o → H b = none := fun b o q => by
    obtain ⟨⟨x, hx⟩, _⟩ := h1 b o q
    exact I.freeC x b hx
  have hh : ∀ b o, cs.lookup b = some o → s.heap.get? b = some o := fun b o q => (h1 b o q).2.1
  have hge : ∀ b o, cs.lookup b = some o → X.s_0.heap.objs.size ≤ b := fun b o q => by
    obtain ⟨⟨x, hx⟩, _⟩ := h1 b o q
    exact I.ok.cab x b (C.fn hblk x) hx
  have E := I.env0
  obtain ⟨rl1, kp⟩ := rl.ov C.gk hn
  have nfr : ∀ b o, cs.lookup b = some o → b ∉ frs X.stack := fun b o q z => by
    rcases List.mem_cons.mp (I.stkSub b z) with e | e
    · obtain ⟨m, ⟨on, es, ep, hl, hd, _⟩, _⟩ := I.loc
      obtain ⟨_, g, v, hv⟩ := h1 b o q
      rw [e] at g
      rw [g] at hl
      cases hl
      rw [hv] at hd; cases hd
    · obtain ⟨_, o', ho', _⟩ := I.ok.funs.mem e
      exact absurd (Nat.lt_of_lt_of_le (Heap.lt_size ho') (hge b o q)) (Nat.lt_irrefl _)
  have env0 : Env0 X.prog X.w X.K X.mg X.base X.A X.stack s (ovl H cs) := ⟨E.frames, E.mod, fun b o e => ⟨(E.bs b o e).1, by
      cases q : cs.lookup b with
      | some o' =>
        exact absurd (Nat.lt_of_lt_of_le (Nat.lt_of_lt_of_le (Heap.lt_size e) I.ok.bsz) (hge b o' q)) (Nat.lt_irrefl _)
      | none => rw [ovl_n q]; exact (E.bs b o e).2⟩, E.bsz, E.funs, fun b hb => by
      cases q : cs.lookup b with
      | some o' => exact absurd hb (nfr b o' q)
      | none => rw [ovl_n q]; exact E.frf b hb, hok_ovl E.hok hh hn, E.bare⟩
  cases q : F ds h with
  | no => rw [q] at kq; exact kq.elim
  | exc cc fs h' => rw [q] at kq; exact kq.elim
  | ok d h' =>
    rw [q] at kq
    unfold clean at kq
    dsimp only at kq
    split at kq
    · rename_i nn
      rw [Bool.and_eq_true] at nn
      have hp : lift G F vs (ovl H cs) (fun v H' => ∃ M', Ext (M.ov cs) (ovl H cs) M' H' ∧ RL G h' M' H' ∧ RV G M' H' d v) (fun _ _ _ => False) := ⟨ds, h, M.ov cs, rl1, ra.rvs C.gk hcG I kp h1 h2, by rw [q]; exact fun v M' H' e rl rv => ⟨M', e, rl, rv⟩⟩
      have hb' := hb s us I.kIn (by rw [List.append_nil, ← r.length]; exact Fo.len _ _ _ _ hp)
      rw [List.append_nil] at hb'
      refine wpAny_call (codeAny_mono (Fo.run X.A X.stack s (ovl H cs) ⟨us, []⟩ us vs _ _ (C.room.mono (by omega)) env0 hb' r hp) fun r s' hq => ?_)
      cases r with
      | error e =>
        obtain ⟨_, _, _, _, _, _, _, _, _, _, _, _, z⟩ := hq
        exact z.elim
      | ok fl =>
        cases fl with
        | ret u =>
          obtain ⟨v, H', os, bare, un, hok, rv, M', e, rl', rvd⟩ := hq
          have hc' : HasC H' cs := fun b o w => un.frzs b _ _ (ovl_c w)
          have hk : ∀ b o, cs.lookup b = some o → s'.heap.get? b = some o := fun b o w => (hok b _ (hc' b o w)).1
          have no : ∀ b u, H b = some u → cs.lookup b = none := fun b u z => by
            cases w : cs.lookup b with
            | none => rfl
            | some o => rw [hn b o w] at z; cases z
          obtain ⟨e2, rl2⟩ := back_un rl hn hc' e rl' nn.2
          refine I.after ⟨v, unl H' cs, os, bare, ⟨fun b o z n hb hx => ?_, fun b o z n hb hx => ?_, fun b o z n hx => ?_, un.there, fun b ys z => ?_, fun b o u z => ?_, fun b ps z => ?_⟩, hok_unl hok (fun b o q x z => by rw [hc' b o q] at z; cases z) (fun b o q xs z => by rw [hc' b o q] at z; cases z), rv, kq v _ _ e2 rl2 (rvd.un hc' nn.1)⟩
          · cases w : cs.lookup b with
            | some o' =>
              have g := hh b o' w
              rw [z] at g; cases g
              exact hk b o w
            | none => exact un.keep b o z (by rw [ovl_n w]; exact n) hb hx
          · cases w : cs.lookup b with
            | some o' => exact absurd hb (nfr b o' w)
            | none => exact un.slot b o z (by rw [ovl_n w]; exact n) hb hx
          · cases w : cs.lookup b with
            | some o' => exact unl_c w
            | none => rw [unl_n w]; exact un.free b o z (by rw [ovl_n w]; exact n) hx
          · have w := no b _ z
            rw [unl_n w]
            exact un.tups b ys (by rw [ovl_n w]; exact z)
          · have w := no b _ z
            rw [unl_n w]
            exact un.frzs b o u (by rw [ovl_n w]; exact z)
          · have w := no b _ z
            rw [unl_n w]
            exact un.tbls b ps (by rw [ovl_n w]; exact z)
        | next => exact False.elim hq
        | brk => exact False.elim hq
        | cont => exact False.elim hq
    · exact kq.elim
end
end Pf

set_option Elab.async false
set_option linter.all false
set_option maxRecDepth 100000
set_option maxHeartbeats 1000000
/-! ## return f(..), some arguments functions that were made here -/
namespace Pf
open PySem L2 NdefX LamX
/-- an argument: a value; a lambda; a name that holds a function made just ahead -/
inductive Xc where
  | p (x : Xp) | lam (i : Nat) (js : List Nat) | nam (m i : Nat) (js : List Nat)
def capsR : List Nat → Rho → Option (List D)
  | [], _ => some []
  | j :: js, r => match r[j]? with
    | some (.pl d) => (capsR js r).map (d :: ·)
    | _ => none
def ofOl {α β : Type} (o : Option α) (f : α → Res β) : Res β := match o with
  | some a => f a
  | none => .no
def semC : List Xc → Rho → Hh → Res (List D)
  | [], _, h => .ok [] h
  | .p x :: xs, r, h => (x.sem r h).bind fun d h1 => (semC xs r h1).bind fun ds h2 => .ok (d :: ds) h2
  | .lam i js :: xs, r, h => ofOl (capsR js r) fun l => (semC xs r h).bind fun ds h2 => .ok (.clo i l :: ds) h2
  | .nam _ i js :: xs, r, h => ofOl (capsR js r) fun l => (semC xs r h).bind fun ds h2 => .ok (.clo i l :: ds) h2
def isLam : Expr → Bool
  | .Lambda _ _ _ _ => true
  | _ => false
def okC : List Xc → Ck → List Expr → Bool
  | [], _, es => es.isEmpty
  | .p x :: xs, ck, es => match es with
    | e :: es => x.ok ck e && okC xs ck es
    | [] => false
  | .lam _ _ :: xs, ck, es => match es with
    | e :: es => isLam e && okC xs ck es
    | [] => false
  | .nam m _ _ :: xs, ck, es => match es with
    | e :: es => varB m ck e && okC xs ck es
    | [] => false
def needC : List Xc → Tb → Prop
  | [], _ => True
  | .p x :: xs, t => x.need t ∧ needC xs t
  | .lam _ _ :: xs, t => needC xs t
  | .nam _ _ _ :: xs, t => needC xs t
/-- the words of the i-th function are these -/
def WordsAt (G : Gx) (ck : Ck) (q : Str) (nm : Nat → Nat → Str) (i : Nat) (js : List Nat) (name : Str) (params : Arguments) (bd : Bd) (scope : Scope) (pos : Pos) : Prop :=
  ∃ fr, G.ct[i]? = some ⟨name, q ++ name, params, bd, scope, fr⟩ ∧ nm pos.line pos.col = q ++ name ∧ js.map (fun j => ck.N[j]?) = fr.map some ∧ (∀ y ∈ scope.names, y.2 = .free → ck.sc.names.lookup y.1 = some .cell ∨ ck.sc.names.lookup y.1 = some .free) ∧ ∀ y ∈ fr, (y, NameKind.free) ∈ scope.names
def lkC (G : Gx) (ck : Ck) (q : Str) (nm : Nat → Nat → Str) : List Xc → List Expr → Prop
  | .lam i js :: xs, e :: es => (∃ params body scope pos, e = .Lambda params body scope pos ∧ (∀ env, defaultsOf params env = ([], [])) ∧ WordsAt G ck q nm i js "<lambda>" params (.ex body) scope pos) ∧ lkC G ck q nm xs es
  | .p _ :: xs, _ :: es => lkC G ck q nm xs es
  | .nam _ _ _ :: xs, _ :: es => lkC G ck q nm xs es
  | _, _ => True
theorem okC_star : ∀ {xs : List Xc} {ck : Ck} {es : List Expr}, okC xs ck es = true → es.all notStar = true
  | [], _, es, h => by
    cases es with
    | nil => rfl
    | cons a b => simp [okC] at h
  | x :: xs, ck, es, h => by
    cases es with
    | nil => rfl
    | cons a b =>
      simp only [List.all_cons, Bool.and_eq_true]
      cases x <;> simp only [okC, Bool.and_eq_true] at h
      · rename_i x; exact ⟨x.star _ _ h.1, okC_star h.2⟩
      · exact ⟨by cases a <;> first | rfl | (simp [isLam] at h), okC_star h.2⟩
      · exact ⟨varB_star h.1, okC_star h.2⟩
section
variable {X : Cx} {G : Gx} {ck : Ck} {k : Nat} {Wx : WX} {σ : St} {H H' : Hp} {M M' : Mp} {h : Hh} {r : Rho}
theorem caps_of (re : RE G M H r σ) : ∀ {js : List Nat} {l : List D}, capsR js r = some l → ∃ xs, js.map (slotAt σ) = xs.map some ∧ RVs G M H l xs
  | [], l, e => by cases e; exact ⟨[], rfl, .nil⟩
  | j :: js, l, e => by
    unfold capsR at e
    split at e
    · rename_i d q
      obtain ⟨m, e1, e2⟩ := Option.map_eq_some_iff.mp e
      subst e2
      obtain ⟨v, h1, h2⟩ := re.pl j d q
      obtain ⟨xs, h3, h4⟩ := caps_of re e1
      exact ⟨v :: xs, by simp [slotAt_of h1, h3], .cons h2 h4⟩
    · cases e
theorem MadeAt.ext (gk : Gk G) {i : Nat} {l : List D} {v : V} (kp : Keep M H M' H') (m : MadeAt X G M H σ i l v) : MadeAt X G M' H' σ i l v := by
  obtain ⟨C, f, c, xs, js, g1, g2, f1, f2, a1, a2, rc, rest⟩ := m
  exact ⟨C, f, c, xs, js, g1, g2, (kp.k f f1).1, (kp.k c f2).1, (kp.k f f1).2 _ a1, (kp.k c f2).2 _ a2, rc.keep gk kp, rest⟩
def NamOk (X : Cx) (G : Gx) (M : Mp) (H : Hp) (σ : St) (r : Rho) (xs : List Xc) : Prop := ∀ m i js, Xc.nam m i js ∈ xs → ∃ l v, capsR js r = some l ∧ σ[m]? = some (some v) ∧ MadeAt X G M H σ i l v
def tCs (X : Cx) (G : Gx) (Wx : WX) (xs : List Xc) : TA := fun σ H Q => ∃ r h M, RL G h M H ∧ RE G M H r σ ∧ NamOk X G M H σ r xs ∧ KG (fun M H => RAs X G M H σ) G Wx σ M H Q (semC xs r h)
theorem made_at (C : Cok X G ck k Wx) {i : Nat} {js : List Nat} {Cc : Cl} {l : List D} (g : G.ct[i]? = some Cc) (hj : js.map (fun j => ck.N[j]?) = Cc.fr.map some) (hf : ∀ y ∈ Cc.scope.names, y.2 = .free → ck.sc.names.lookup y.1 = some .cell ∨ ck.sc.names.lookup y.1 = some .free) (hfr : ∀ y ∈ Cc.fr, (y, NameKind.free) ∈ Cc.scope.names)
    (re : RE G M H r σ) (hl : capsR js r = some l) {f c : Addr} (f1 : M.F f) (f2 : M.F c) (a1 : H f = some (ClO f Cc (cloFrom X.env.cells Cc.scope.names []) c)) (a2 : H c = some (CodeO c Cc.qual)) : MadeAt X G M H σ i l (.ref f) := by
  obtain ⟨xs, e1, e2⟩ := caps_of re hl
  refine ⟨_, f, c, xs, js, g, rfl, f1, f2, a1, a2, e2, by rw [C.hN]; exact hj, e1, fun y hy e => ?_, hfr⟩
  rw [C.hsc]; exact hf y hy e
theorem free_cells {pins : List (Addr × Obj)} {s : Shared} (C : Cok X G ck k Wx) (I : Inv X pins σ H s) {scope : Scope} (hf : ∀ y ∈ scope.names, y.2 = .free → ck.sc.names.lookup y.1 = some .cell ∨ ck.sc.names.lookup y.1 = some .free) : ∀ y ∈ scope.names, y.2 = .free → ∃ c, X.env.cells.lookup y.1 = some c := fun y hy e => by
  have := hf y hy e
  rw [← C.hsc] at this
  exact this.elim (fun z => I.ok.has _ (.inl z)) fun z => I.ok.has _ (.inr z)
theorem sndC {q : Str} {c P : Addr} {nm : Nat → Nat → Str} : ∀ (xs : List Xc) {es : List Expr}, Cok X G ck k Wx → Mkr X G q c P nm → okC xs ck es = true → lkC G ck q nm xs es → needC xs (tbOf X G k) → PA X es (tCs X G Wx xs)
  | [], es, C, mk, ho, lk, n => by
    cases es with
    | cons a b => simp [okC] at ho
    | nil => exact PA.imp pa_nil fun σ H Qv ⟨r, h, M, rl, re, nk, k⟩ => k.here rl .nil
  | x :: xs, es, C, mk, ho, lk, n => by
    cases es with
    | nil => cases x <;> simp [okC] at ho
    | cons a b =>
      have hst := okC_star ho
      simp only [List.all_cons, Bool.and_eq_true] at hst
      have ext : ∀ {M1 M2 : Mp} {H1 H2 : Hp} {h1 : Hh} {σ : St} {r : Rho}, RL G h1 M1 H1 → Ext M1 H1 M2 H2 → NamOk X G M1 H1 σ r (x :: xs) → NamOk X G M2 H2 σ r xs := fun rl e nk m i js hm => by
        obtain ⟨l, v, e1, e2, e3⟩ := nk m i js (List.mem_cons_of_mem _ hm)
        exact ⟨l, v, e1, e2, e3.ext C.gk (e.kp rl)⟩
      cases x with
      | p x =>
        simp only [okC, Bool.and_eq_true] at ho
        exact PA.imp (pa_cons (x.snd C ho.1 n.1) (sndC xs C mk ho.2 lk n.2) (star_cons hst.1 _)) fun σ H Qv ⟨r, h, M, rl, re, nk, k⟩ => ⟨r, h, M, rl, re, one k fun d v h1 M1 H1 e1 r1 b1 k1 =>
          ⟨r, h1, M1, r1, re.ext C.gk rl e1, ext rl e1 nk, one k1 fun e u h2 M2 H2 e2 r2 b2 k2 => k2.here r2 (.pl (b1.ext C.gk r1 e2) b2)⟩⟩
      | lam i js =>
        simp only [okC, Bool.and_eq_true] at ho
        obtain ⟨⟨params, body, scope, pos, rfl, hdef, fr, g, hp, hj, hf, hfr⟩, lk2⟩ := lk
        have pe : PE X (.Lambda params body scope pos) (fun σ H Q => ∃ h M, RL G h M H ∧ ∀ f c' M1 H1, Ext M H M1 H1 → RL G h M1 H1 → M1.F f → M1.F c' → H1 f = some (ClO f ⟨"<lambda>", q ++ "<lambda>", params, .ex body, scope, fr⟩ (cloFrom X.env.cells scope.names []) c') → H1 c' = some (CodeO c' (q ++ "<lambda>")) → Q (.ref f) H1) :=
          ⟨fun pins s σ H Q I ⟨h, M, rl, hQ⟩ => PySem.W.kla_eval (hdef _) (made C.gk mk ⟨"<lambda>", q ++ "<lambda>", params, .ex body, scope, fr⟩ rfl hp (free_cells C I hf) I rl fun f c' M1 H1 s' I1 e1 r1 f1 f2 a1 a2 => ⟨.ref f, H1, I1, rfl, hQ f c' M1 H1 e1 r1 f1 f2 a1 a2⟩)⟩
        refine PA.imp (pa_cons pe (sndC xs C mk ho.2 lk2 n) (star_cons hst.1 _)) fun σ H Qv ⟨r, h, M, rl, re, nk, k⟩ => ⟨h, M, rl, fun f c' M1 H1 e1 r1 f1 f2 a1 a2 => ?_⟩
        have re1 := re.ext C.gk rl e1
        have k := k.back e1
        unfold semC at k
        cases hl : capsR js r with
        | none => rw [hl] at k; exact k.elim
        | some l =>
          rw [hl] at k
          have ma := made_at C (Cc := ⟨"<lambda>", q ++ "<lambda>", params, .ex body, scope, fr⟩) g hj hf hfr re1 hl f1 f2 a1 a2
          exact ⟨r, h, M1, r1, re1, ext rl e1 nk, one k fun e u h2 M2 H2 e2 r2 b2 k2 => k2.here r2 (.cl (ma.ext C.gk (e2.kp r1)) b2)⟩
      | nam m i js =>
        simp only [okC, Bool.and_eq_true] at ho
        refine PA.imp (pa_cons (pe_varB C ho.1) (sndC xs C mk ho.2 lk n) (star_cons hst.1 _)) fun σ H Qv ⟨r, h, M, rl, re, nk, k⟩ => ?_
        obtain ⟨l, v, e1, e2, ma⟩ := nk m i js List.mem_cons_self
        unfold semC at k
        rw [e1] at k
        exact ⟨v, e2, r, h, M, rl, re, ext rl Ext.refl nk, one k fun e u h2 M2 H2 e3 r2 b2 k2 => k2.here r2 (.cl (ma.ext C.gk (e3.kp rl)) b2)⟩
/-- f(..) -/
theorem pe_callC {q f : Str} {c P : Addr} {nm : Nat → Nat → Str} {F : Fsem} {xs : List Xc} {es : List Expr} {p pos : Pos} (C : Cok X G ck k Wx) (hblk : ck.blk = false) (mk : Mkr X G q c P nm) (hcG : G.hc = hcD G.ct) (hg : globB ck f = true) (hne : es ≠ []) (ho : okC xs ck es = true) (lk : lkC G ck q nm xs es) (nF : FnL (tbOf X G k) f F) (n : needC xs (tbOf X G k)) :
    PE X (.Call (.Name f p) es [] pos) (fun σ H Qv => ∃ r h M, RL G h M H ∧ RE G M H r σ ∧ NamOk X G M H σ r xs ∧ KG (RV G) G Wx σ M H Qv ((semC xs r h).bind fun ds h1 => clean (F ds h1))) := by
  obtain ⟨g1, g2, g3⟩ := gl_of C hg
  obtain ⟨af, fd, ps, hm, kp, hb, Fo⟩ := nF
  dsimp only at hm kp hb Fo
  rw [C.hK, C.hmg] at Fo
  rw [C.hK] at hb kp
  rw [C.hmg] at hm
  have hA := sndC xs C mk ho lk n
  have hst := okC_star ho
  refine ⟨fun pins s σ H Qv I ⟨r, hh, M, rl, re, nk, k⟩ => ?_⟩
  refine wpAny_Call_Name_kw (ld_glob I g1 hm ?_ g2)
  cases es with
  | nil => exact absurd rfl hne
  | cons e1 es =>
    simp only [List.all_cons, Bool.and_eq_true] at hst
    exact PySem.W.callWith_K (h₀ := X.base) I.ok.mod.kin kp (thn (hA.run pos pins s σ H (fun vs H1 => ∃ ds h1 M1, Ext M H M1 H1 ∧ RL G h1 M1 H1 ∧ RAs X G M1 H1 σ ds vs ∧ KG (RV G) G Wx σ M1 H1 Qv (clean (F ds h1))) I ⟨r, hh, M, rl, re, nk, one k fun d v h1 M1 H1 e1 r1 b1 k1 => ⟨d, h1, M1, e1, r1, b1, k1⟩⟩) fun us s1 ⟨vs, H1, I1, r1, ds, h1, M1, e1, rl1, ra, w1⟩ => ⟨I1.kIn, run_C C hblk hcG Fo hb I1 r1 rl1 ra w1⟩) (star_cons hst.1 _) (stars_of hst.2)
end
end Pf

set_option Elab.async false
set_option linter.all false
set_option maxRecDepth 100000
set_option maxHeartbeats 1000000
/-! ## Defs that end with return f(..), some arguments functions made there -/
namespace Pf
open PySem L2 NdefX LamX
structure Lst where
  sem : Rho → Hh → Out
  ok : Ck → List Stmt → Bool
  lk : Gx → Ck → Str → (Nat → Nat → Str) → List Stmt → Prop
  need : Tb → Prop
  snd : ∀ {X : Cx} {G : Gx} {ck : Ck} {k : Nat} {Wx : WX} {st : List Stmt} {q : Str} {c P : Addr} {nm : Nat → Nat → Str}, Cok X G ck k Wx → ck.blk = false → ck.sc.kind = .function → Mkr X G q c P nm → G.hc = hcD G.ct → ok ck st = true → lk G ck q nm st → need (tbOf X G k) → PSs X st (tSm G Wx sem)
def isNam (m i : Nat) (js : List Nat) : Xc → Bool
  | .nam m' i' js' => decide (m' = m ∧ i' = i ∧ js' = js)
  | _ => true
def noNam : Xc → Bool
  | .nam _ _ _ => false
  | _ => true
def retcB (f : Str) (xs : List Xc) (ck : Ck) (st : Stmt) : Bool := match st with
  | .Return (some (.Call (.Name x _) (e :: es) [] _)) _ => x == f && globB ck x && okC xs ck (e :: es)
  | _ => false
def retcE : Stmt → List Expr
  | .Return (some (.Call _ es _ _)) _ => es
  | _ => []
theorem retcB_some {f : Str} {xs : List Xc} {ck : Ck} {st : Stmt} (h : retcB f xs ck st = true) : ∃ p e es q z, st = .Return (some (.Call (.Name f p) (e :: es) [] q)) z ∧ globB ck f = true ∧ okC xs ck (e :: es) = true := by
  unfold retcB at h
  split at h
  · simp only [Bool.and_eq_true, beq_iff_eq] at h
    obtain ⟨⟨rfl, h1⟩, h2⟩ := h
    exact ⟨_, _, _, _, _, rfl, h1, h2⟩
  · cases h
def retcS (F : Fsem) (xs : List Xc) (r : Rho) (h : Hh) : Out := ((semC xs r h).bind fun ds h1 => clean (F ds h1)).st r fun d h1 => .rt d h1
section
variable {X : Cx} {G : Gx} {ck : Ck} {k : Nat} {Wx : WX}
theorem ps_retC {q f : Str} {c P : Addr} {nm : Nat → Nat → Str} {F : Fsem} {xs : List Xc} {st : Stmt} (C : Cok X G ck k Wx) (hblk : ck.blk = false) (mk : Mkr X G q c P nm) (hcG : G.hc = hcD G.ct) (ho : retcB f xs ck st = true) (lk : lkC G ck q nm xs (retcE st)) (nF : FnL (tbOf X G k) f F) (n : needC xs (tbOf X G k)) :
    PS X st (fun Dn σ H => ∃ M0 H0 r h M, Sv G M0 H0 r h M σ H ∧ NamOk X G M H σ r xs ∧ KO G Wx M0 H0 M H Dn (retcS F xs r h)) := by
  obtain ⟨p, e, es, pos, z, rfl, hg, ho⟩ := retcB_some ho
  exact PS.imp (ps_ret (pe_callC C hblk mk hcG hg (by simp) ho lk nF n)) fun Dn σ H ⟨M0, H0, r, hh, M, s, nk, k⟩ => ⟨r, hh, M, s.rl, s.re, nk, oneS C.gk s k fun d v h1 M1 H1 e1 s1 rv k1 => k1 v M1 H1 s1.ent s1.rl rv⟩
end
/-- return f(..) -/
def Lst.ret (f : Str) (F : Fsem) (xs : List Xc) : Lst where
  sem := retcS F xs
  ok ck st := match st with
    | [a] => retcB f xs ck a && xs.all noNam
    | _ => false
  lk G ck q nm st := match st with
    | [a] => lkC G ck q nm xs (retcE a)
    | _ => False
  need t := FnL t f F ∧ needC xs t
  snd {X G ck k Wx st q c P nm} C hblk hk mk hcG ho lk n := by
    split at ho
    · simp only [Bool.and_eq_true] at ho
      refine PSs.imp (pss_cons (ps_retC C hblk mk hcG ho.1 lk n.1 n.2) pss_nil) fun Dn σ H ⟨M0, H0, r, hh, M, s, k⟩ => ⟨M0, H0, r, hh, M, s, fun m i js hm => ?_, ?_⟩
      · have := List.all_eq_true.mp ho.2 _ hm
        simp [noNam] at this
      · exact k
    · cases ho
section
variable {X : Cx} {G : Gx} {ck : Ck} {k : Nat} {Wx : WX} {M0 M M1 : Mp} {H0 H H1 : Hp} {r : Rho} {h : Hh} {σ : St}
theorem RE.setU {m : Nat} {v : V} (x : RE G M H r σ) : RE G M H (r.set m .un) (σ.set m (some v)) where
  len := by simp [x.len]
  pl := fun i d q => by
    by_cases z : m = i
    · subst z
      by_cases hi : m < r.length
      · rw [List.getElem?_set_self hi] at q; cases q
      · rw [List.getElem?_eq_none (by simpa using hi)] at q; cases q
    · rw [List.getElem?_set_ne z] at q ⊢
      exact x.pl i d q
  ow := fun i d q => by
    by_cases z : m = i
    · subst z
      by_cases hi : m < r.length
      · rw [List.getElem?_set_self hi] at q; cases q
      · rw [List.getElem?_eq_none (by simpa using hi)] at q; cases q
    · rw [List.getElem?_set_ne z] at q ⊢
      exact x.ow i d q
  one := fun i j d e a q1 q2 s1 s2 => by
    by_cases z : m = i
    · subst z
      by_cases hi : m < r.length
      · rw [List.getElem?_set_self hi] at q1; cases q1
      · rw [List.getElem?_eq_none (by simpa using hi)] at q1; cases q1
    by_cases w : m = j
    · subst w
      by_cases hi : m < r.length
      · rw [List.getElem?_set_self hi] at q2; cases q2
      · rw [List.getElem?_eq_none (by simpa using hi)] at q2; cases q2
    rw [List.getElem?_set_ne z] at q1 s1
    rw [List.getElem?_set_ne w] at q2 s2
    exact x.one i j d e a q1 q2 s1 s2
theorem Sv.setU {m : Nat} {v : V} (s : Sv G M0 H0 r h M σ H) : Sv G M0 H0 (r.set m .un) h M (σ.set m (some v)) H where
  ent := s.ent
  rl := s.rl
  re := s.re.setU
  own := fun i d a q1 q2 => by
    by_cases z : m = i
    · subst z
      by_cases hi : m < r.length
      · rw [List.getElem?_set_self hi] at q1; cases q1
      · rw [List.getElem?_eq_none (by simpa using hi)] at q1; cases q1
    · rw [List.getElem?_set_ne z] at q1 q2
      exact s.own i d a q1 q2
theorem capsR_set {m : Nat} : ∀ {js : List Nat}, m ∉ js → capsR js (r.set m .un) = capsR js r
  | [], _ => rfl
  | j :: js, h => by
    have h1 : m ≠ j := fun z => h (by simp [z])
    unfold capsR
    rw [List.getElem?_set_ne h1, capsR_set fun z => h (List.mem_cons_of_mem _ z)]
/-- the first statement: it makes the function -/
def MkS (X : Cx) (G : Gx) (C : Cl) (m : Nat) (st : Stmt) : Prop := PS X st (fun Dn σ H => ∃ h M, RL G h M H ∧ ∀ f c' M1 H1, Ext M H M1 H1 → RL G h M1 H1 → M1.F f → M1.F c' → H1 f = some (ClO f C (cloFrom X.env.cells C.scope.names []) c') → H1 c' = some (CodeO c' C.qual) → m < σ.length → Dn.nx (σ.set m (some (.ref f))) H1)
theorem two_ret {q f : Str} {c P : Addr} {nm : Nat → Nat → Str} {F : Fsem} {xs : List Xc} {st1 st2 : Stmt} {m i : Nat} {js : List Nat} {Cc : Cl} (C : Cok X G ck k Wx) (hblk : ck.blk = false) (mk : Mkr X G q c P nm) (hcG : G.hc = hcD G.ct) (hm : MkS X G Cc m st1) (ho : retcB f xs ck st2 = true) (lk : lkC G ck q nm xs (retcE st2)) (nF : FnL (tbOf X G k) f F) (n : needC xs (tbOf X G k))
    (hn : xs.all (isNam m i js) = true) (hmj : m ∉ js) (g : G.ct[i]? = some Cc) (hj : js.map (fun j => ck.N[j]?) = Cc.fr.map some) (hf : ∀ y ∈ Cc.scope.names, y.2 = .free → ck.sc.names.lookup y.1 = some .cell ∨ ck.sc.names.lookup y.1 = some .free) (hfr : ∀ y ∈ Cc.fr, (y, NameKind.free) ∈ Cc.scope.names) :
    PSs X [st1, st2] (tSm G Wx fun r h => ofOl (capsR js r) (fun l => Res.ok l h) |>.st r fun _ _ => retcS F xs (r.set m .un) h) := by
  refine PSs.imp (pss_cons hm (pss_cons (ps_retC C hblk mk hcG ho lk nF n) pss_nil)) fun Dn σ H ⟨M0, H0, r, hh, M, s, k⟩ => ⟨hh, M, s.rl, fun f c' M1 H1 e1 r1 f1 f2 a1 a2 hlt => ?_⟩
  dsimp only at k
  cases hl : capsR js r with
  | none => rw [hl] at k; exact k.elim
  | some l =>
    rw [hl] at k
    have k : KO G Wx M0 H0 M H Dn (retcS F xs (r.set m .un) hh) := k
    have s1 := s.step C.gk e1 r1
    refine ⟨M0, H0, r.set m .un, hh, M1, s1.setU, fun m' i' js' hm' => ?_, k.back (e1.kp s.rl)⟩
    have := List.all_eq_true.mp hn _ hm'
    simp only [isNam, decide_eq_true_eq] at this
    obtain ⟨rfl, rfl, rfl⟩ := this
    have hl' : capsR js' (r.set m' .un) = some l := by rw [capsR_set hmj]; exact hl
    exact ⟨l, .ref f, hl', by rw [List.getElem?_set_self hlt], made_at C g hj hf hfr s1.re.setU hl' f1 f2 a1 a2⟩
theorem mks_def {q : Str} {c P : Addr} {nm : Nat → Nat → Str} {m : Nat} {name : Str} {params : Arguments} {body : List Stmt} {scope : Scope} {fr : List Str} {pos : Pos} (C : Cok X G ck k Wx) (mk : Mkr X G q c P nm) (hN : ck.N[m]? = some name) (hs : stB ck name = true) (hd0 : params.defaults = []) (hk0 : params.kw_defaults = []) (ha : ∀ env, annTrees params none env = [])
    (hp : nm pos.line pos.col = q ++ name) (hf : ∀ y ∈ scope.names, y.2 = .free → ck.sc.names.lookup y.1 = some .cell ∨ ck.sc.names.lookup y.1 = some .free) :
    MkS X G ⟨name, q ++ name, params, .st body, scope, fr⟩ m (.FunctionDef name params body [] none [] scope none name pos) := by
  obtain ⟨s1, s2⟩ := st_of C hs
  refine ⟨fun pins s σ H D I ⟨h, M, rl, hQ⟩ => ?_⟩
  have hq : qualnameIn X.env name name = X.env.qual ++ name := by
    have hk : X.env.kindOf name = some .local ∨ X.env.kindOf name = some .cell := s1
    unfold qualnameIn
    rcases hk with k | k <;> rw [k] <;> first | rfl | exact if_neg (by decide)
  refine PySem.W.nestDef_K hd0 hk0 (ha _) ?_
  rw [hq]
  have hi : X.N[m]? = some name := by rw [C.hN]; exact hN
  have hlt : m < σ.length := by rw [I.len]; exact (List.getElem?_eq_some_iff.mp hi).1
  exact made C.gk mk ⟨name, q ++ name, params, .st body, scope, fr⟩ rfl hp (free_cells C I hf) I rl fun f c' M1 H1 s' I1 e1 r1 f1 f2 a1 a2 => store_ok I1 C.nd hi s1 (v := .ref f) rfl (fun s'' J => ⟨_, H1, J, hQ f c' M1 H1 e1 r1 f1 f2 a1 a2 hlt⟩) s2
theorem mks_lam {q : Str} {c P : Addr} {nm : Nat → Nat → Str} {m : Nat} {params : Arguments} {body : Expr} {scope : Scope} {fr : List Str} {pos : Pos} {st : Stmt} (C : Cok X G ck k Wx) (hk : ck.sc.kind = .function) (mk : Mkr X G q c P nm) (h : asgB (.n m) (fun _ e => isLam e) ck st = true) (hst : ∃ tg p, st = .Assign [tg] (.Lambda params body scope pos) p) (hdef : ∀ env, defaultsOf params env = ([], []))
    (hp : nm pos.line pos.col = q ++ "<lambda>") (hf : ∀ y ∈ scope.names, y.2 = .free → ck.sc.names.lookup y.1 = some .cell ∨ ck.sc.names.lookup y.1 = some .free) :
    MkS X G ⟨"<lambda>", q ++ "<lambda>", params, .ex body, scope, fr⟩ m st := by
  obtain ⟨tg, v, p, rfl, ht, h1, hx, h2⟩ := asgB_some h
  obtain ⟨tg', p', e⟩ := hst
  cases e
  cases tg <;> simp only [Tg.ok, Bool.false_eq_true] at ht
  simp only [Bool.and_eq_true, atB, decide_eq_true_eq] at ht
  obtain ⟨s1, s2⟩ := st_of C ht.2
  rename_i y py
  have hi : X.N[m]? = some y := by rw [C.hN]; exact ht.1
  have pe : PE X (.Lambda params body scope pos) (fun σ H Q => ∃ h M, RL G h M H ∧ ∀ f c' M1 H1, Ext M H M1 H1 → RL G h M1 H1 → M1.F f → M1.F c' → H1 f = some (ClO f ⟨"<lambda>", q ++ "<lambda>", params, .ex body, scope, fr⟩ (cloFrom X.env.cells scope.names []) c') → H1 c' = some (CodeO c' (q ++ "<lambda>")) → m < σ.length → Q (.ref f) H1) :=
    ⟨fun pins s σ H Q I ⟨h, M, rl, hQ⟩ => PySem.W.kla_eval (hdef _) (made C.gk mk ⟨"<lambda>", q ++ "<lambda>", params, .ex body, scope, fr⟩ rfl hp (free_cells C I hf) I rl fun f c' M1 H1 s' I1 e1 r1 f1 f2 a1 a2 => ⟨.ref f, H1, I1, rfl, hQ f c' M1 H1 e1 r1 f1 f2 a1 a2 (by rw [I.len]; exact (List.getElem?_eq_some_iff.mp hi).1)⟩)⟩
  exact PS.imp (ps_asg pe (pg_name C.nd hi s1 s2) (by rw [swLc_ok C.hsc hk, h1]) (swSt_ok C.hsc hk h2) rfl) fun Dn σ H ⟨h, M, rl, hQ⟩ => ⟨h, M, rl, fun f c' M1 H1 e1 r1 f1 f2 a1 a2 hlt => hQ f c' M1 H1 e1 r1 f1 f2 a1 a2 hlt⟩
end
def defB (m : Nat) (ck : Ck) (st : Stmt) : Bool := match st with
  | .FunctionDef name params _ [] none [] _ none name' _ => decide (name' = name) && atB ck m name && stB ck name && params.defaults.isEmpty && params.kw_defaults.isEmpty
  | _ => false
def twoS (F : Fsem) (xs : List Xc) (m : Nat) (js : List Nat) (r : Rho) (h : Hh) : Out := (ofOl (capsR js r) (fun l => Res.ok l h)).st r fun _ _ => retcS F xs (r.set m .un) h
/-- def g(..): ..; return f(..) -/
def Lst.defRet (m i : Nat) (js : List Nat) (f : Str) (F : Fsem) (xs : List Xc) : Lst where
  sem := twoS F xs m js
  ok ck st := match st with
    | [a, b] => defB m ck a && retcB f xs ck b && xs.all (isNam m i js) && !js.contains m
    | _ => false
  lk G ck q nm st := match st with
    | [.FunctionDef name params body _ _ _ scope _ _ pos, b] => (∀ env, annTrees params none env = []) ∧ WordsAt G ck q nm i js name params (.st body) scope pos ∧ lkC G ck q nm xs (retcE b)
    | _ => False
  need t := FnL t f F ∧ needC xs t
  snd {X G ck k Wx st q c P nm} C hblk hk mk hcG ho lk n := by
    split at ho
    · rename_i a b
      simp only [Bool.and_eq_true, Bool.not_eq_true'] at ho
      obtain ⟨⟨⟨h1, h2⟩, h3⟩, h4⟩ := ho
      unfold defB at h1
      split at h1
      · simp only [Bool.and_eq_true, decide_eq_true_eq, atB, List.isEmpty_iff] at h1
        obtain ⟨⟨⟨⟨rfl, e1⟩, e2⟩, e3⟩, e4⟩ := h1
        obtain ⟨ha, ⟨fr, g, hp, hj, hf, hfr⟩, lk2⟩ := lk
        exact two_ret C hblk mk hcG (mks_def (fr := fr) C mk e1 e2 e3 e4 ha hp hf) h2 lk2 n.1 n.2 h3 (by simpa using h4) g hj hf hfr
      · cases h1
    · cases ho
/-- g = lambda ..: ..; return f(..) -/
def Lst.lamRet (m i : Nat) (js : List Nat) (f : Str) (F : Fsem) (xs : List Xc) : Lst where
  sem := twoS F xs m js
  ok ck st := match st with
    | [a, b] => asgB (.n m) (fun _ e => isLam e) ck a && retcB f xs ck b && xs.all (isNam m i js) && !js.contains m
    | _ => false
  lk G ck q nm st := match st with
    | [.Assign _ (.Lambda params body scope pos) _, b] => (∀ env, defaultsOf params env = ([], [])) ∧ WordsAt G ck q nm i js "<lambda>" params (.ex body) scope pos ∧ lkC G ck q nm xs (retcE b)
    | _ => False
  need t := FnL t f F ∧ needC xs t
  snd {X G ck k Wx st q c P nm} C hblk hk mk hcG ho lk n := by
    split at ho
    · rename_i a b
      simp only [Bool.and_eq_true, Bool.not_eq_true'] at ho
      obtain ⟨⟨⟨h1, h2⟩, h3⟩, h4⟩ := ho
      obtain ⟨tg, v, p, rfl, _, _, hx, _⟩ := asgB_some h1
      cases v <;> simp only [isLam, Bool.false_eq_true] at hx
      obtain ⟨ha, ⟨fr, g, hp, hj, hf, hfr⟩, lk2⟩ := lk
      exact two_ret C hblk mk hcG (mks_lam (fr := fr) C hk mk h1 ⟨_, _, rfl⟩ ha hp hf) h2 lk2 n.1 n.2 h3 (by simpa using h4) g hj hf hfr
    · cases ho
/-! ### the whole body -/
theorem then_assoc (o : Out) (f g : Rho → Hh → Out) : (o.then f).then g = o.then fun r h => (f r h).then g := by cases o <;> rfl
theorem sndApp {f : Rho → Hh → Out} : ∀ (l : List Si) {X : Cx} {G : Gx} {ck : Ck} {k : Nat} {Wx : WX} {st st2 : List Stmt}, Cok X G ck k Wx → ck.sc.kind = .function → okSs l ck st = true → needSs l (tbOf X G k) → PSs X st2 (tSm G Wx f) → PSs X (st ++ st2) (tSm G Wx fun r h => (semSs l r h).then f)
  | [], X, G, ck, k, Wx, st, st2, C, hk, h, n, h2 => by
    cases st with
    | cons a b => simp [okSs] at h
    | nil => exact h2
  | .s x :: l, X, G, ck, k, Wx, st, st2, C, hk, h, n, h2 => by
    cases st with
    | nil => simp [okSs] at h
    | cons a b =>
      simp only [okSs, Bool.and_eq_true] at h
      refine PSs.imp (pss_cons (x.snd C hk h.1 n.1) (sndApp l C hk h.2 n.2 h2)) fun Dn σ H ⟨M0, H0, r, hh, M, s, k⟩ => ⟨M0, H0, r, hh, M, s, ?_⟩
      simp only [semSs, then_assoc] at k
      exact ss_ext k
  | .frz i :: l, X, G, ck, k, Wx, st, st2, C, hk, h, n, h2 => by
    have ih := sndApp l C hk (by simpa [okSs] using h) n h2
    refine ⟨fun pins sh σ H Dn I ⟨M0, H0, r, hh, M, s, k⟩ => ?_⟩
    by_cases z : ∃ l, r[i]? = some (.ow (.dct l))
    · obtain ⟨l', z⟩ := z
      obtain ⟨a, ks, q, f⟩ := s.frzD C.gk i z
      obtain ⟨od, I2⟩ := I.lock q trivial
      exact ih.run pins sh σ _ Dn I2 ⟨M0, H0, frzR i r, hh, M.fr a, (f od).2, KO.back (f od).1 k⟩
    · obtain ⟨M', e, s'⟩ := s.frz C.gk i fun l q => z ⟨l, q⟩
      exact ih.run pins sh σ H Dn I ⟨M0, H0, frzR i r, hh, M', s', KO.back e k⟩
  | .kill ks :: l, X, G, ck, k, Wx, st, st2, C, hk, h, n, h2 => PSs.imp (sndApp l C hk (by simpa [okSs] using h) n h2) fun Dn σ H ⟨M0, H0, r, hh, M, s, k⟩ => ⟨M0, H0, killR ks r, hh, M, s.kill ks, k⟩
def fnFM (n m : Nat) (body : List Si) (L : Lst) : Fsem := fun ds h => if ds.length = m then outR ((semSs body (startR n ds) h).then L.sem) else .no
section
variable {P : Program} {w : World} {G : Gx} {base : Heap} {k : Nat} {f : Str}
theorem fnok_M (gk : Gk G) {qual : Str} {st : Stmt} {a c Pt : Addr} {nm : Nat → Nat → Str} {N ps : List Str} {ss : List Si} {L : Lst} {b1 b2 : List Stmt} {oc : Value} {od : Option Addr} {kV doc pm : Value} {an : Option Addr} {ct : Value} {osl : Array (Option Value)}
    (lk : G.K.lookup a = some ⟨oc, od, .func (PySem.W.fnOf f qual (defArgs st) (defBody st) (defScope st) .none kV doc pm an (.ref c) ct), osl⟩) (hcd : PySem.W.codeIn G.K (.ref c) qual = true) (hsc : FnScope N ps (defScope st)) (hbd : defBody st = b1 ++ b2) (ok : okSs ss ⟨N, defScope st, false⟩ b1 = true) (ok2 : L.ok ⟨N, defScope st, false⟩ b2 = true)
    (lk2 : L.lk G ⟨N, defScope st, false⟩ (qual ++ ".<locals>.") nm b2) (nd : needSs ss ⟨P, w, G, base, k⟩) (nd2 : L.need ⟨P, w, G, base, k⟩) (hcG : G.hc = hcD G.ct) (tab : TabB base G.mg c Pt) (mem : (Pt, nm) ∈ G.T) (uni : ∀ p ∈ G.T, p.1 = Pt → p.2 = nm) :
    FnOk P w G.K G.mg base (L2.CX P w) (k + 3) a (PySem.W.fnOf f qual (defArgs st) (defBody st) (defScope st) .none kV doc pm an (.ref c) ct) ps (lift G (fnFM N.length ps.length ss L)) := by
  refine fn_of lk hcd hsc (fun vs H Q E ⟨ds, h, M, rl, rd, kq⟩ => ?_) fun A outer s H vs Qv E hr ⟨ds, h, M, rl, rd, kq⟩ => ?_
  · unfold fnFM at kq
    split at kq
    · rename_i e; rw [← rd.length]; exact e
    · exact kq.elim
  · have C : Cok (cxOf (L2.CX P w) P w G.K G.mg base N qual (defScope st) a (.ref c) A outer s H E) G ⟨N, defScope st, false⟩ k (fun cls d _ H' => E cls d H') :=
      ⟨rfl, rfl, rfl, rfl, rfl, hsc.nd, hr, takes_of rfl rfl rfl rfl, passes_of rfl, fun _ _ => rfl, gk⟩
    have mk : Mkr (cxOf (L2.CX P w) P w G.K G.mg base N qual (defScope st) a (.ref c) A outer s H E) G (qual ++ ".<locals>.") c Pt nm := ⟨rfl, rfl, tab, mem, uni⟩
    have bodyP := sndApp ss C hsc.kind ok nd (L.snd C rfl hsc.kind mk hcG ok2 lk2 nd2)
    rw [← hbd] at bodyP
    refine ⟨_, bodyP, M, H, startR N.length ds, h, M, ⟨Ext.refl, rl, RE.start rd, fun i d a q1 q2 => (start_no_ow q1).elim⟩, ?_⟩
    unfold fnFM at kq
    show KO _ _ _ _ _ _ _ ((semSs ss (startR N.length ds) h).then L.sem)
    split at kq
    · cases q : (semSs ss (startR N.length ds) h).then L.sem with
      | nx r' h' => rw [q] at kq; exact fun σ' M' H' _ s' => kq _ M' H' s'.ent s'.rl .non
      | rt d h' => rw [q] at kq; exact fun v M' H' e rl' rv => kq v M' H' e rl' rv
      | exc c fs r' h' => rw [q] at kq; exact fun cls dx σ' M' H' _ s' rx => kq cls dx M' H' s'.ent s'.rl rx
      | bk r' h' => rw [q] at kq; exact kq.elim
      | ct r' h' => rw [q] at kq; exact kq.elim
      | no => rw [q] at kq; exact kq.elim
    · exact kq.elim
end
end Pf

set_option Elab.async false
set_option linter.all false
set_option maxRecDepth 100000
set_option maxHeartbeats 1000000
/-! ## x[::-1], displays of several entries, defs as values -/
namespace Pf
open PySem L2 NdefX LamX
def revB (x : Ck → Expr → Bool) (ck : Ck) (a : Expr) : Bool := match a with
  | .Subscript e (.Slice none none (some (.UnaryOp .USub (.Constant (.int 1) _ _) _)) _) _ => x ck e
  | _ => false
def revE : D → Option D
  | .lst l => some (.lst l.reverse)
  | _ => none
/-- x[::-1], x a list -/
def Xn.rev (x : Xo) : Xn where
  sem r h := (x.sem r h).bind fun d h1 => ofO (on1 revE h1 d) h1
  ok := revB x.ok
  need := x.need
  star _ a h := by
    unfold revB at h
    split at h
    · rfl
    · cases h
  snd {X G ck k Wx a} C h n := by
    unfold revB at h
    split at h
    · refine PE.imp (pe_revL (x.snd C h n)) fun σ H Qv ⟨r, hh, M, rl, re, k⟩ => ⟨r, hh, M, rl, re, one k fun d v h1 M1 H1 e1 r1 b1 k1 => ?_⟩
      try dsimp only at k1
      unfold on1 at k1
      cases q : vw h1 d with
      | none => rw [q] at k1; exact k1.elim
      | some z =>
        rw [q] at k1
        simp only [Option.bind_some] at k1
        unfold revE at k1
        split at k1
        · obtain ⟨p, vs, rfl, hp, rv⟩ := (vw_ok r1 b1 q).lst
          exact ⟨p, vs, rfl, SqL.of hp, fun p hp => kn_list C.gk e1 r1 rv.rev k1 p hp⟩
        · exact k1.elim
    · cases h
/-! ### {k: v, ..} -/
def semD : List (Xp × Xp) → Rho → Hh → Res (List (D × D))
  | [], _, h => .ok [] h
  | p :: ps, r, h => (p.1.sem r h).bind fun k h1 => (p.2.sem r h1).bind fun d h2 => (semD ps r h2).bind fun l h3 => .ok ((k, d) :: l) h3
def okD : List (Xp × Xp) → Ck → List (Option Expr) → List Expr → Bool
  | [], _, ks, vs => ks.isEmpty && vs.isEmpty
  | p :: ps, ck, ks, vs => match ks, vs with
    | some k :: ks, v :: vs => p.1.ok ck k && p.2.ok ck v && okD ps ck ks vs
    | _, _ => false
def needD : List (Xp × Xp) → Tb → Prop
  | [], _ => True
  | p :: ps, t => p.1.need t ∧ p.2.need t ∧ needD ps t
inductive RPv (G : Gx) (M : Mp) (H : Hp) : List (D × D) → List (V × V) → Prop
  | nil : RPv G M H [] []
  | cons {k d : D} {x y : V} {l : List (D × D)} {ps : List (V × V)} : RV G M H k x → RV G M H d y → RPv G M H l ps → RPv G M H ((k, d) :: l) ((x, y) :: ps)
section
variable {X : Cx} {G : Gx} {ck : Ck} {k : Nat} {Wx : WX}
def trD (G : Gx) (Wx : WX) (ps : List (Xp × Xp)) : List (TE × TE) := ps.map fun p => (tG (RV G) G Wx p.1.sem, tG (RV G) G Wx p.2.sem)
theorem sndD (C : Cok X G ck k Wx) {pos : Pos} : ∀ (ps : List (Xp × Xp)) {ks : List (Option Expr)} {vs : List Expr}, okD ps ck ks vs = true → needD ps (tbOf X G k) → PPs X pos ks vs (trD G Wx ps) ∧ ks.all (·.isSome) = true ∧ ks.length = ps.length ∧ vs.length = ps.length
  | [], ks, vs, h, n => by
    simp only [okD, Bool.and_eq_true, List.isEmpty_iff] at h
    obtain ⟨rfl, rfl⟩ := h
    exact ⟨pps_nil, rfl, rfl, rfl⟩
  | p :: ps, ks, vs, h, n => by
    unfold okD at h
    split at h
    · simp only [Bool.and_eq_true] at h
      obtain ⟨a, b, c, d⟩ := sndD C ps h.2 n.2.2
      exact ⟨pps_cons (p.1.snd C h.1.1 n.1) (p.2.snd C h.1.2 n.2.1) a, by simp [b], by simp [c], by simp [d]⟩
    · cases h
theorem runD (gk : Gk G) : ∀ (ps : List (Xp × Xp)) {σ : St} {H : Hp} {M : Mp} {h : Hh} {r : Rho} {Q : List (V × V) → Hp → Prop}, RL G h M H → RE G M H r σ → KG (RPv G) G Wx σ M H Q (semD ps r h) → tPairs (trD G Wx ps) σ H Q
  | [], σ, H, M, h, r, Q, rl, re, k => k.here rl .nil
  | p :: ps, σ, H, M, h, r, Q, rl, re, k => ⟨r, h, M, rl, re, one k fun d v h1 M1 H1 e1 r1 b1 k1 => ⟨r, h1, M1, r1, re.ext gk rl e1, one k1 fun e u h2 M2 H2 e2 r2 b2 k2 =>
      runD gk ps r2 ((re.ext gk rl e1).ext gk r1 e2) (one k2 fun l ws h3 M3 H3 e3 r3 b3 k3 => k3.here r3 (.cons ((b1.ext gk r1 e2).ext gk r2 e3) (b2.ext gk r2 e3) b3))⟩⟩
theorem RPv.keys {G : Gx} {M : Mp} {H : Hp} : ∀ {l : List (D × D)} {ps : List (V × V)}, (l.all fun p => isK p.1) = true → RPv G M H l ps → ∃ kvs : List (Key × V), ps = kvs.map (fun p => (kV p.1, p.2)) ∧ RKs G M H l kvs
  | _, _, _, .nil => ⟨[], rfl, .nil⟩
  | _, _, h, .cons rk rd t => by
    simp only [List.all_cons, Bool.and_eq_true] at h
    obtain ⟨kvs, e, r⟩ := RPv.keys h.2 t
    obtain ⟨yk, rk2, rfl⟩ := RK.of h.1 rk
    exact ⟨(yk, _) :: kvs, by rw [e]; rfl, .cons rk2 rd r⟩
end
def Xn.disp (ps : List (Xp × Xp)) : Xn where
  sem r h := (semD ps r h).bind fun l h1 => if (l.all fun p => isK p.1) && decide (l.length ≤ 15) && decide (0 < l.length) then .ok (.dct (dMerge [] l)) h1 else .no
  ok ck a := match a with
    | .Dict ks vs _ => okD ps ck ks vs && decide (ps.length ≤ 15) && !ps.isEmpty
    | _ => false
  need := needD ps
  star _ a h := by cases a <;> first | rfl | (simp at h)
  snd {X G ck k Wx a} C h n := by
    split at h
    · simp only [Bool.and_eq_true, decide_eq_true_eq, Bool.not_eq_true'] at h
      obtain ⟨⟨h1, h2⟩, h3⟩ := h
      obtain ⟨a1, a2, a3, a4⟩ := sndD C ps h1 n
      refine PE.imp (pe_disp a1 a2 (by rw [a3, a4]) (fun z => by rw [z] at a3; cases ps <;> simp at a3 h3) (by rw [a3]; exact h2)) fun σ H Qv ⟨r, hh, M, rl, re, k⟩ p hp => ?_
      have rl0 := rl.poke C.gk (o := .dK []) (rl.free hp) (rl.freeF hp) (nt_none hp)
      have x0 : Ext M H M (upd H p (.dK [])) := Ext.loose hp
      have re0 := re.ext C.gk rl x0
      have lo : ∀ {M1 : Mp} {H1 : Hp}, Ext M (upd H p (.dK [])) M1 H1 → H1 p = some (.dK []) ∧ p ∉ M1.bs ∧ ¬ M1.F p := fun {M1 H1} e => ⟨e.keep _ _ upd_same (rl.free hp) trivial, e.off upd_same (rl.free hp), e.offF rl0 upd_same trivial (rl.free hp) (rl.freeF hp)⟩
      refine runD C.gk ps rl0 re0 ?_
      dsimp only at k
      cases q : semD ps r hh with
      | no => rw [q] at k; exact k.elim
      | exc c fs h' => rw [q] at k; exact fun cls dx M' H' e => k cls dx M' H' (x0.trans e)
      | ok l h1 =>
        rw [q] at k
        simp only [bind_ok] at k
        split at k
        · rename_i hk
          simp only [Bool.and_eq_true, decide_eq_true_eq] at hk
          intro ws M1 H1 e1 r1 b1
          obtain ⟨l1, l2, l3⟩ := lo e1
          obtain ⟨kvs, rfl, rk⟩ := b1.keys hk.1.1
          refine ⟨l1, kvs, rfl, by rw [← rk.length]; exact hk.1.2, ?_⟩
          exact k _ M1 _ ((x0.trans e1).up hp) (r1.poke C.gk l2 l3 (nt_some l1 trivial)) ⟨p, rfl, .dct upd_same ((rk.merge .nil).keep C.gk (Keep.poke l3)), l2, l3, hp⟩
        · exact k.elim
    · cases h
def GdL (t : Tb) (x : Nat) (y : Str) : Prop := t.G.gn x = y ∧ ∃ a, t.G.mg y = some (.ref a)
/-- a def of the module as a value -/
def Xp.gdef (x : Nat) (y : Str) : Xp where
  sem _ h := .ok (.gl x) h
  ok := glB y
  need t := GdL t x y
  star _ a h := by cases a <;> first | rfl | (simp [glB, nm] at h)
  snd {X G ck k Wx a} C h o := by
    unfold glB at h
    cases e : nm a with
    | none => rw [e] at h; cases h
    | some z =>
      rw [e] at h
      obtain ⟨p, rfl⟩ := nm_some e
      simp only [Bool.and_eq_true, beq_iff_eq] at h
      obtain ⟨rfl, h⟩ := h
      obtain ⟨g1, g2, g3⟩ := gl_of C h
      obtain ⟨e1, b, e2⟩ := o
      dsimp only at e1 e2
      exact PE.imp (pe_glob g1 (by rw [← C.hmg]; exact e2) (v := .ref b) rfl g2) fun σ H Qv ⟨r, h, M, rl, re, k⟩ => k.here rl (.gl (by rw [e1]; exact e2))
section
variable {r : Rho} {h : Hh}
@[simp] theorem mn_rev {x : Xo} : (Xn.rev x).sem r h = (x.sem r h).bind fun d h1 => ofO (on1 revE h1 d) h1 := rfl
@[simp] theorem mn_disp {ps : List (Xp × Xp)} : (Xn.disp ps).sem r h = (semD ps r h).bind fun l h1 => if (l.all fun p => isK p.1) && decide (l.length ≤ 15) && decide (0 < l.length) then .ok (.dct (dMerge [] l)) h1 else .no := rfl
@[simp] theorem m_gdef {x : Nat} {y : Str} : (Xp.gdef x y).sem r h = .ok (.gl x) h := rfl
@[simp] theorem m_nget {x : Xo} {y : Xp} : (Xp.nget x y).sem r h = (x.sem r h).bind fun d h1 => (y.sem r h1).bind fun e h2 => ofO (on1 (ngetE · e) h2 d) h2 := rfl
@[simp] theorem mt_nin {x : Xp} {y : Xo} : (Xt.nin x y).sem r h = (x.sem r h).bind fun d h1 => (y.sem r h1).bind fun e h2 => ofO (on1 (ninE · d) h2 e) h2 := rfl
@[simp] theorem mt_nnin {x : Xp} {y : Xo} : (Xt.nnin x y).sem r h = (x.sem r h).bind fun d h1 => (y.sem r h1).bind fun e h2 => ofO (on1 (fun z => (ninE z d).map (!·)) h2 e) h2 := rfl
@[simp] theorem ms_nput {j : Nat} {i e : Xp} : (Sm.nput j i e).sem r h = (e.sem r h).st r fun d h1 => match r[j]? with
    | some (.ow (.dcn l)) => (i.sem r h1).st r fun k h2 => if nK k && decide (l.length < line) then .nx (r.set j (.ow (.dcn (nPut l k d)))) h2 else .no
    | _ => .no := rfl
@[simp] theorem mn_nnil : Xn.nnil.sem r h = .ok (.dcn []) h := rfl
@[simp] theorem mn_ndisp1 {x y : Xp} : (Xn.ndisp1 x y).sem r h = (x.sem r h).bind fun d h1 => (y.sem r h1).bind fun e h2 => if nK d then .ok (.dcn [(d, e)]) h2 else .no := rfl
@[simp] theorem m_callv {CF : Nat → Fsem} {CA : Nat → Nat} {GF : Nat → Option Fsem} {j : Nat} {xs : List Xp} : (Xp.callv CF CA GF j xs).sem r h = callvS CF CA GF j xs r h := rfl
@[simp] theorem vw_dcn {l : List (D × D)} : vw h (.dcn l) = some (.dcn l) := rfl
end
theorem nd_Xn_rev {tb : Tb} {x : Xo} : (Xn.rev x).need tb = (x.need tb) := rfl
theorem nd_Xn_disp {tb : Tb} {ps : List (Xp × Xp)} : (Xn.disp ps).need tb = (needD ps tb) := rfl
theorem nd_Xp_gdef {tb : Tb} {x : Nat} {y : Str} : (Xp.gdef x y).need tb = (GdL tb x y) := rfl
theorem nd_Xp_nget {tb : Tb} {x : Xo} {y : Xp} : (Xp.nget x y).need tb = (HashL tb ∧ x.need tb ∧ y.need tb) := rfl
theorem nd_Xt_nin {tb : Tb} {x : Xp} {y : Xo} : (Xt.nin x y).need tb = (HashL tb ∧ x.need tb ∧ y.need tb) := rfl
theorem nd_Xt_nnin {tb : Tb} {x : Xp} {y : Xo} : (Xt.nnin x y).need tb = (HashL tb ∧ x.need tb ∧ y.need tb) := rfl
theorem nd_Sm_nput {tb : Tb} {j : Nat} {i e : Xp} : (Sm.nput j i e).need tb = (HashL tb ∧ i.need tb ∧ e.need tb) := rfl
theorem nd_Xn_nnil {tb : Tb} : (Xn.nnil).need tb = True := rfl
theorem nd_Xn_ndisp1 {tb : Tb} {x y : Xp} : (Xn.ndisp1 x y).need tb = (HashL tb ∧ x.need tb ∧ y.need tb) := rfl
theorem nd_Xp_callv {tb : Tb} {CF : Nat → Fsem} {CA : Nat → Nat} {GF : Nat → Option Fsem} {j : Nat} {xs : List Xp} : (Xp.callv CF CA GF j xs).need tb = (ClvL tb CF CA ∧ GdsL tb GF ∧ needA xs tb) := rfl
theorem nd_Lst_ret {tb : Tb} {f : Str} {F : Fsem} {xs : List Xc} : (Lst.ret f F xs).need tb = (FnL tb f F ∧ needC xs tb) := rfl
theorem nd_Lst_defRet {tb : Tb} {m i : Nat} {js : List Nat} {f : Str} {F : Fsem} {xs : List Xc} : (Lst.defRet m i js f F xs).need tb = (FnL tb f F ∧ needC xs tb) := rfl
theorem nd_Lst_lamRet {tb : Tb} {m i : Nat} {js : List Nat} {f : Str} {F : Fsem} {xs : List Xc} : (Lst.lamRet m i js f F xs).need tb = (FnL tb f F ∧ needC xs tb) := rfl
end Pf

set_option Elab.async false
set_option linter.all false
set_option maxRecDepth 100000
set_option maxHeartbeats 1000000
/-! ## The end of a law whose defs make functions -/
namespace Pf
open PySem PySem.Spec PyProof.Rows L2 NdefX LamX
/-- the law's promise: the script is a list of whole numbers, the tables are empty -/
def spT (n : Nat) (K : PySem.W.Frag) (cs : List (Addr × Addr)) : L2.Sp := fun vs H Q _ => ∃ (a : Addr) (ns : List Int), vs = [.ref a] ∧ SqL K H a (ns.map V.int) ∧ (∀ p ∈ cs, H p.2 = some (.tbl #[])) ∧ ns.length ≤ n ∧ ∀ H', Q (.bl true) H'
section
variable {P : Program} {w : World} {G : Gx} {base : Heap} {k n : Nat} {fa : Addr} {fd : FuncData} {x : Str} {Fl : Fsem} {cs : List (Addr × Addr)}
theorem start_T (hT : ∀ p ∈ G.T, ∃ m ∈ cs, m.2 = p.1) (law : ∀ ns : List Int, ns.length ≤ n → ∃ h', Fl [.lsc (ns.map D.int)] [] = .ok (.bl true) h') {a : Addr} {ns : List Int} {H : Hp} {Q : VK} {E : XK} (hs : LscAt G (fun b => ∃ o xs, H b = some (.frz o (.lst xs))) H a (ns.map V.int)) (ht : ∀ p ∈ cs, H p.2 = some (.tbl #[])) (hn : ns.length ≤ n) (q : ∀ H', Q (.bl true) H') : lift G Fl [.ref a] H Q E := by
  obtain ⟨h', e⟩ := law ns hn
  refine ⟨[.lsc (ns.map D.int)], [], ⟨fun b => ∃ o xs, H b = some (.frz o (.lst xs)), []⟩, ⟨rfl, fun i o e => by simp at e, by simp, fun a ha => by simp at ha, fun b ⟨o, xs, e⟩ => ⟨_, e, trivial⟩, fun p hp => ?_⟩, .cons (.scr hs (RVs.ofInts ns)) .nil, ?_⟩
  · obtain ⟨m, hm, e⟩ := hT p hp
    refine ⟨#[], by rw [← e]; exact ht m hm, True.intro, fun pos cv hc => ?_⟩
    have z : codeAmong pos [] = some cv := hc
    simp [codeAmong] at z
  · rw [e]
    intro v M' H' _ _ rv
    cases rv
    exact q H'
/-- the script is written no more from here on -/
theorem lock_T (hT : ∀ p ∈ G.T, ∃ m ∈ cs, m.2 = p.1) (law : ∀ ns : List Int, ns.length ≤ n → ∃ h', Fl [.lsc (ns.map D.int)] [] = .ok (.bl true) h') (Fo : FnOk P w G.K G.mg base (L2.CX P w) k fa fd [x] (lift G Fl)) : FnOk P w G.K G.mg base (L2.CX P w) k fa fd [x] (spT n G.K cs) := by
  refine ⟨fun vs H Q E h => by obtain ⟨a, ns, e, _⟩ := h; rw [e]; rfl, fun A outer s H args us vs Q E hr e0 hb hv hsp => ?_⟩
  obtain ⟨a, ns, hvs, hs, ht, hn, q⟩ := hsp
  subst hvs
  rcases hs with (hs | ⟨o, hs⟩) | hs
  · obtain ⟨_, its, m, rv, ho⟩ := e0.hok a _ hs
    have hne : ∀ b, H b = none → b ≠ a := fun b z w => by rw [w, hs] at z; cases z
    have ot : ∀ b, b ≠ a → upd H a (.frz { cls := .type "list", data := .seq its.toArray m } (.lst (ns.map V.int))) b = H b := fun b z => upd_ne z
    have hok : HOk P w (upd H a (.frz { cls := .type "list", data := .seq its.toArray m } (.lst (ns.map V.int)))) s.heap := fun b u e => by
      have st : ∀ u, H b = some u → ObjOk P w (upd H a (.frz { cls := .type "list", data := .seq its.toArray m } (.lst (ns.map V.int)))) s.heap b u := fun u z => (e0.hok b u z).stay (fun c v _ q => q) (fun c q => by rw [ot c (fun w => by rw [w, hs] at q; cases q)]; exact q) fun c ys q => by rw [ot c (fun w => by rw [w, hs] at q; cases q)]; exact q
      by_cases z : b = a
      · subst z
        rw [upd_same] at e
        cases e
        exact ⟨ho, st _ hs⟩
      · rw [ot b z] at e
        exact st u e
    have env1 : Env0 P w G.K G.mg base A outer s (upd H a (.frz { cls := .type "list", data := .seq its.toArray m } (.lst (ns.map V.int)))) := ⟨e0.frames, e0.mod, fun b o e => ⟨(e0.bs b o e).1, by rw [ot b (hne b (e0.bs b o e).2)]; exact (e0.bs b o e).2⟩, e0.bsz, e0.funs, fun b hb => by rw [ot b (hne b (e0.frf b hb))]; exact e0.frf b hb, hok, e0.bare⟩
    have sp := start_T (G := G) (H := upd H a (.frz { cls := .type "list", data := .seq its.toArray m } (.lst (ns.map V.int)))) (Q := fun v _ => v = .bl true) (E := fun _ _ _ => False) hT law (.inl ⟨⟨_, _, upd_same⟩, _, upd_same⟩) (fun p hp => by
      have := ht p hp
      rw [ot p.2 (fun w => by rw [w, hs] at this; cases this)]; exact this) hn fun _ => rfl
    refine codeAny_mono (Fo.run A outer s _ args us _ _ _ hr env1 hb hv sp) fun r s' hq => ?_
    cases r with
    | error e =>
      obtain ⟨_, _, _, _, _, _, _, _, _, _, _, _, z⟩ := hq
      exact z.elim
    | ok fl =>
      cases fl with
      | ret u =>
        obtain ⟨v, H', os, bare, un, hok', rv', rfl⟩ := hq
        refine ⟨_, H', os, bare, ⟨fun b o z n hb hx => un.keep b o z (by rw [ot b (hne b n)]; exact n) hb hx, fun b o z n hb hx => un.slot b o z (by rw [ot b (hne b n)]; exact n) hb hx, fun b o z n hx => un.free b o z (by rw [ot b (hne b n)]; exact n) hx, un.there, fun b ys z => un.tups b ys (by rw [ot b (fun w => by rw [w, hs] at z; cases z)]; exact z), fun b o u z => un.frzs b o u (by rw [ot b (fun w => by rw [w, hs] at z; cases z)]; exact z), fun b ps z => un.tbls b ps (by rw [ot b (fun w => by rw [w, hs] at z; cases z)]; exact z)⟩, hok', rv', q H'⟩
      | next => exact False.elim hq
      | brk => exact False.elim hq
      | cont => exact False.elim hq
  · exact Fo.run A outer s H args us _ Q E hr e0 hb hv (start_T hT law (.inl ⟨⟨o, _, hs⟩, o, hs⟩) ht hn q)
  · exact Fo.run A outer s H args us _ Q E hr e0 hb hv (start_T hT law (.inr hs) ht hn q)
end
/-- a def that makes functions: its name, its code object, its table -/
structure MkAt (ts : List Addr) (K : PySem.W.Frag) (m : Str × Addr × Addr) : Prop where
  cd : PySem.W.codeHdIn K m.2.1 m.2.2 = true
  mem : m.2.2 ∈ ts
  no : K.lookup m.2.2 = none
theorem walk_LT {l : PySem.W.OpenLaw} {n k : Nat} {q : Program} {loose : List Str} {XP : (Str → Option Value) → Heap → Prop} {YP : World → Heap → Prop} {d : DefRec} {K : Params → PySem.W.Frag} {ts : List Addr} {x : Str}
    (hn : l.most = some n) (hn2 : n ≤ sizeLine) (hdf : d.params.defaults = []) (hr : Room k callerA) (hY : ∀ (w : World) (h : Heap), YP w h → (K w.params).In h) (hYt : ∀ (w : World) (h : Heap), YP w h → ∀ P ∈ ts, h.get? P = some (PySem.W.tabObj #[])) {Fl : Fsem} (law : ∀ ns : List Int, ns.length ≤ n → ∃ h', Fl [.lsc (ns.map D.int)] [] = .ok (.bl true) h')
    (F : ∀ (w : World) (mg : Str → Option Value) (fa : Addr) (h : Heap), (K w.params).In h → h.Ns mainGlobals mg → mg d.name = some (.ref fa) →
      ∃ (fd : FuncData) (G : Gx) (ms : List (Str × Addr × Addr)), G.K = K w.params ∧ G.mg = mg ∧ (∀ p ∈ G.T, ∃ m ∈ ms, m.2.2 = p.1) ∧ (∀ m ∈ ms, MkAt ts (K w.params) m) ∧ (∀ (s : Shared) (u : Value), BindsTo s fd ⟨[u], []⟩ [(x, u)]) ∧
        ∀ base : Heap, (K w.params).In base → base.Ns mainGlobals mg → (∀ m ∈ ms, TabB base mg m.2.1 m.2.2) → FnOk l.prog w (K w.params) mg base (L2.CX l.prog w) k fa fd [x] (lift G Fl)) :
    PySem.W.WalkO q loose XP YP l.row.toRowW d [] (fun f vs => PySem.call f vs) := by
  refine Att.attach_callB hn hdf fun w s₀ s₁ mg mb fa o pm cd doc a vs ns G Y ho hd hcd hmg hobj hints hlen hbits hg => ?_
  have KX := hY w _ Y
  obtain ⟨fd, Gx', ms, eK, em, hT, hM, hb, hF⟩ := F w mg fa _ KX G.T.g hmg
  have tb : ∀ m ∈ ms, PySem.W.CodeHd s₁.heap m.2.1 m.2.2 ∧ s₁.heap.get? m.2.2 = some { cls := .none, data := .fields #[] } := fun m hm => ⟨PySem.W.codeHd_of_K KX (hM m hm).cd, hYt w _ Y _ (hM m hm).mem⟩
  refine law_callTs (CX := L2.CX l.prog w) (cs := ms.map (·.2)) (sp := spT n (K w.params) (ms.map (·.2))) KX G.T.g G.T.b G.T.builtins G.T.nolimit hg (fun p hp => ?_) (fun p hp => ?_) (fun p hp => ?_) G.T.bmain hobj hints (Nat.le_trans hlen hn2) hr (fun base h1 h2 h3 => ?_) hb (fun H hH hS => ⟨a, ns, rfl, hS, hH, hlen, fun _ => rfl⟩) ?_
  · obtain ⟨m, hm, rfl⟩ := List.mem_map.mp hp
    exact (tb m hm).2
  · obtain ⟨m, hm, rfl⟩ := List.mem_map.mp hp
    exact (hM m hm).no
  · obtain ⟨m, hm, rfl⟩ := List.mem_map.mp hp
    exact (tb m hm).1
  · have := hF base h1 h2 fun m hm => h3 m.2 (List.mem_map_of_mem hm)
    rw [← eK, ← em] at this ⊢
    exact lock_T (cs := ms.map (·.2)) (fun p hp => by
      obtain ⟨m, hm, e⟩ := hT p hp
      exact ⟨m.2, List.mem_map_of_mem hm, e⟩) law this
  · intro H e s' ⟨_, _, _, _, _, _, _, _, _, _, _, _, z⟩
    exact z
end Pf

set_option Elab.async false
set_option linter.all false
set_option maxRecDepth 100000
set_option maxHeartbeats 1000000
/-! ## Makers and functions made in them, as the head tells them -/
namespace Pf
open PySem PySem.Spec PyProof.Rows L2 NdefX LamX
def gxc (K : PySem.W.Frag) (mg : Str → Option Value) (w : World) (gn : Nat → Str) (T : List NTab) (ct : List Cl) : Gx := { K := K, mg := mg, gn := gn, hash := fun d => (nkey d).hash w, T := T, ct := ct, hc := hcD ct }
theorem gk_gxc (K : PySem.W.Frag) (mg : Str → Option Value) (w : World) (gn : Nat → Str) (T : List NTab) (ct : List Cl) : Gk (gxc K mg w gn T ct) := ⟨fun k i l v h => hcD_keep k i l v h, fun _ _ _ _ h => h.elim, fun F H i l ⟨_, _, _, _, _, _, z, _⟩ => (nomatch z), fun _ _ _ _ h => h⟩
theorem hash_gxc {P : Program} {w : World} {K : PySem.W.Frag} {mg : Str → Option Value} {gn : Nat → Str} {T : List NTab} {ct : List Cl} {base : Heap} {k : Nat} : HashL ⟨P, w, gxc K mg w gn T ct, base, k⟩ := fun _ => rfl
/-! parts of the text -/
def stP : Stmt → Pos
  | .FunctionDef _ _ _ _ _ _ _ _ _ p => p
  | _ => ⟨0, 0, 0, 0⟩
def asgL : Stmt → Expr
  | .Assign _ e _ => e
  | _ => .Constant .none 0 ⟨0, 0, 0, 0⟩
def lamA : Expr → Arguments
  | .Lambda a _ _ _ => a
  | _ => defArgs (.Pass ⟨0, 0, 0, 0⟩)
def lamB : Expr → Expr
  | .Lambda _ b _ _ => b
  | e => e
def lamS : Expr → Scope
  | .Lambda _ _ s _ => s
  | _ => defScope (.Pass ⟨0, 0, 0, 0⟩)
def lamP : Expr → Pos
  | .Lambda _ _ _ p => p
  | _ => ⟨0, 0, 0, 0⟩
def stAt (b : List Stmt) (i : Nat) : Stmt := b.getD i (.Pass ⟨0, 0, 0, 0⟩)
def exAt (b : List Expr) (i : Nat) : Expr := b.getD i (.Constant .none 0 ⟨0, 0, 0, 0⟩)
/-- a def that makes functions, with its code object's place -/
structure DefMk (K : PySem.W.Frag) (mg : Str → Option Value) (f : Str) (st : Stmt) (c : Addr) : Prop where
  ex : ∃ (a : Addr) (oc : Value) (od : Option Addr) (kV doc pm : Value) (an : Option Addr) (ct : Value) (osl : Array (Option Value)), mg f = some (.ref a) ∧ K.lookup a = some ⟨oc, od, .func (PySem.W.fnOf f f (defArgs st) (defBody st) (defScope st) .none kV doc pm an (.ref c) ct), osl⟩ ∧ PySem.W.codeIn K (.ref c) f = true ∧ PySem.W.keepIn K (.ref a) = true
section
variable {P : Program} {w : World} {G : Gx} {base : Heap} {k j : Nat} {f : Str}
theorem DefMk.fnm (gk : Gk G) {st : Stmt} {c Pt : Addr} {nm : Nat → Nat → Str} {N ps : List Str} {ss : List Si} {L : Lst} {b1 b2 : List Stmt} (D : DefMk G.K G.mg f st c) (hsc : FnScope N ps (defScope st)) (hbd : defBody st = b1 ++ b2) (ok : okSs ss ⟨N, defScope st, false⟩ b1 = true) (ok2 : L.ok ⟨N, defScope st, false⟩ b2 = true)
    (lk2 : L.lk G ⟨N, defScope st, false⟩ (f ++ ".<locals>.") nm b2) (nd : needSs ss ⟨P, w, G, base, k⟩) (nd2 : L.need ⟨P, w, G, base, k⟩) (hcG : G.hc = hcD G.ct) (tab : TabB base G.mg c Pt) (mem : (Pt, nm) ∈ G.T) (uni : ∀ p ∈ G.T, p.1 = Pt → p.2 = nm)
    (hb : ∀ (kV doc pm : Value) (an : Option Addr) (cdv ct : Value) (us : List Value), us.length = ps.length → bindArgs (PySem.W.fnOf f f (defArgs st) (defBody st) (defScope st) .none kV doc pm an cdv ct) ⟨us, []⟩ = pure (ps.zip us)) (hj : k + 3 ≤ j) : FnL ⟨P, w, G, base, j⟩ f (fnFM N.length ps.length ss L) := by
  obtain ⟨a, oc, od, kV, doc, pm, an, ct, osl, hm, lk, hcd, kp⟩ := D.ex
  exact ⟨a, _, ps, hm, kp, (fun_mk (st := st) lk hcd kp).binds hb, (fnok_M gk lk hcd hsc hbd ok ok2 lk2 nd nd2 hcG tab mem uni).mono hj⟩
end
/-- a code object as it stands in the heap -/
theorem codeHd_by {K : PySem.W.Frag} {c P : Addr} {od : Option Addr} {sl : Array (Option Value)} {v0 v1 v2 v3 v4 v5 v6 v8 v12 v13 v14 v15 v16 v17 : Value} {v7 v10 : Int} {v9 : Bool} {v18 : Str} {t7 t10 t18 : Tok}
    (lk : K.lookup c = some ⟨.type "code", od, .fields #[v0, v1, v2, v3, v4, v5, v6, .int v7 t7, v8, .bool v9, .int v10 t10, .ref P, v12, v13, v14, v15, v16, v17, .str v18 t18], sl⟩) (hne : c ≠ P) : PySem.W.codeHdIn K c P = true := by
  unfold PySem.W.codeHdIn
  rw [lk]
  simp [hne]
end Pf

set_option Elab.async false
set_option linter.all false
set_option maxRecDepth 100000
set_option maxHeartbeats 1000000
/-! ## x[a:b] of a list as a new thing of one's own -/
namespace Pf
open PySem L2 NdefX LamX
def slN (d : D) (lo hi : Option Int) : Option D := match d with
  | .lst l => some (.lst (cutD l lo hi))
  | _ => none
def rSN (G : Gx) : V → Option Int → Option Int → Hp → VK → Prop := fun x lo hi H Qv => ∃ d h M l, RL G h M H ∧ RB G M H d x ∧ vw h d = some (.lst l) ∧ ∀ p, H p = none → ∀ vs, RVs G M H (cutD l lo hi) vs → Qv (.ref p) (upd H p (.lst vs))
theorem sl_N {X : Cx} {G : Gx} (gk : Gk G) (hK : G.K = X.K) : SlR X (rSN G) := by
  intro pins s σ H x v vl vu lo hi sl Qv I rx hs pl pu ⟨d, h, M, l, rl, bd, ed, k⟩
  obtain ⟨p, zs, rfl, h1, r2⟩ := (vw_ok rl bd ed).lst
  exact sl_list pins s σ H _ v vl vu lo hi sl Qv I rx hs pl pu ⟨_, _, rfl, SqL.of h1, fun p hp => k p hp _ r2.cut⟩
def Xn.sl (x : Xo) (lo hi : Option Xp) : Xn where
  sem r h := (x.sem r h).bind fun d h1 => (semO lo r h1).bind fun l h2 => (semO hi r h2).bind fun u h3 => ofO (on1 (slN · l u) h3 d) h3
  ok ck a := match a with
    | .Subscript u (.Slice l w none _) _ => x.ok ck u && okO lo ck l && okO hi ck w
    | _ => false
  need t := x.need t ∧ needO lo t ∧ needO hi t
  star _ a h := by cases a <;> first | rfl | (simp at h)
  snd {X G ck k Wx a} C h n := by
    split at h
    · simp only [Bool.and_eq_true] at h
      refine PE.imp (pe_slice (sl_N C.gk C.hK) (x.snd C h.1.1 n.1) (sndO lo C h.1.2 n.2.1) (sndO hi C h.2 n.2.2)) fun σ H Qv ⟨r, h, M, rl, re, k⟩ => ⟨r, h, M, rl, re, one k fun d v h1 M1 H1 e1 r1 b1 k1 =>
        ⟨r, h1, M1, r1, re.ext C.gk rl e1, one k1 fun e u h2 M2 H2 e2 r2 b2 k2 => ⟨r, h2, M2, r2, (re.ext C.gk rl e1).ext C.gk r1 e2, one k2 fun f w h3 M3 H3 e3 r3 b3 k3 => ?_⟩⟩⟩
      cases b2; cases b3
      unfold on1 at k3
      cases q : vw h3 d with
      | none => rw [q] at k3; exact k3.elim
      | some z =>
        rw [q] at k3
        simp only [Option.bind_some] at k3
        unfold slN at k3
        split at k3
        · refine ⟨d, h3, M3, _, r3, (b1.ext C.gk r1 e2).ext C.gk r2 e3, q, fun p hp vs rv => ?_⟩
          exact kn_list C.gk ((e1.trans e2).trans e3) r3 rv k3 p hp
        · exact k3.elim
    · cases h
@[simp] theorem mn_sl {x : Xo} {lo hi : Option Xp} {r : Rho} {h : Hh} : (Xn.sl x lo hi).sem r h = (x.sem r h).bind fun d h1 => (semO lo r h1).bind fun l h2 => (semO hi r h2).bind fun u h3 => ofO (on1 (slN · l u) h3 d) h3 := rfl
theorem nd_Xn_sl {tb : Tb} {x : Xo} {lo hi : Option Xp} : (Xn.sl x lo hi).need tb = (x.need tb ∧ needO lo tb ∧ needO hi tb) := rfl
end Pf

set_option Elab.async false
set_option linter.all false
set_option maxRecDepth 100000
set_option maxHeartbeats 1000000
/-! ## min(x), max(x), sum(x) of one list -/
namespace Pf
open PySem L2
mutual
/-- data that is told apart as it is told to others -/
def plD : D → Bool
  | .non => true | .bl _ => true | .int _ => true | .str _ => true
  | .tup l => plDs l | .lst l => plDs l
  | _ => false
def plDs : List D → Bool
  | [] => true
  | d :: l => plD d && plDs l
end
mutual
theorem pd_inj : ∀ {a b : D}, plD a = true → plD b = true → pd a = pd b → a = b
  | .non, b, _, hb, h => by cases b <;> simp [pd, plD] at h hb ⊢
  | .bl x, b, _, hb, h => by cases b <;> simp [pd, plD] at h hb ⊢; exact h
  | .int x, b, _, hb, h => by cases b <;> simp [pd, plD] at h hb ⊢; exact h
  | .str x, b, _, hb, h => by cases b <;> simp [pd, plD] at h hb ⊢; exact tS_inj h
  | .tup l, b, ha, hb, h => by
    cases b <;> simp [pd, plD] at h hb ⊢
    exact pds_inj (by simpa [plD] using ha) hb h
  | .lst l, b, ha, hb, h => by
    cases b <;> simp [pd, plD] at h hb ⊢
    exact pds_inj (by simpa [plD] using ha) hb h
  | .lsc _, _, ha, _, _ => by simp [plD] at ha
  | .ty _, _, ha, _, _ => by simp [plD] at ha
  | .dct _, _, ha, _, _ => by simp [plD] at ha
  | .dcn _, _, ha, _, _ => by simp [plD] at ha
  | .set _, _, ha, _, _ => by simp [plD] at ha
  | .ins _ _, _, ha, _, _ => by simp [plD] at ha
  | .ref _, _, ha, _, _ => by simp [plD] at ha
  | .gl _, _, ha, _, _ => by simp [plD] at ha
  | .clo _ _, _, ha, _, _ => by simp [plD] at ha
  | .exc _ _, _, ha, _, _ => by simp [plD] at ha
theorem pds_inj : ∀ {a b : List D}, plDs a = true → plDs b = true → pds a = pds b → a = b
  | [], b, _, hb, h => by cases b <;> simp [pds] at h ⊢
  | x :: a, b, ha, hb, h => by
    cases b with
    | nil => simp [pds] at h
    | cons y b =>
      simp only [pds, List.cons.injEq] at h
      simp only [plDs, Bool.and_eq_true] at ha hb
      rw [pd_inj ha.1 hb.1 h.1, pds_inj ha.2 hb.2 h.2]
end
def dBest (mx : Bool) (x : D) (xs : List D) : D := xs.foldl (fun a y => if (if mx then PySem.W.dataLt (pd a) (pd y) else PySem.W.dataLt (pd y) (pd a)) = true then y else a) x
theorem dBest_mem (mx : Bool) : ∀ (xs : List D) (x : D), dBest mx x xs = x ∨ dBest mx x xs ∈ xs
  | [], x => .inl rfl
  | y :: xs, x => by
    unfold dBest
    rw [List.foldl_cons]
    have ih := fun z => dBest_mem mx xs z
    unfold dBest at ih
    by_cases h : (if mx then PySem.W.dataLt (pd x) (pd y) else PySem.W.dataLt (pd y) (pd x)) = true
    · rw [if_pos h]
      rcases ih y with e | e
      · rw [e]; exact .inr List.mem_cons_self
      · exact .inr (List.mem_cons_of_mem _ e)
    · rw [if_neg h]
      rcases ih x with e | e
      · exact .inl e
      · exact .inr (List.mem_cons_of_mem _ e)
theorem dBest_min : ∀ (xs : List D) (x : D), PySem.W.minD (pd x) (xs.map pd) = pd (dBest false x xs)
  | [], x => rfl
  | y :: xs, x => by
    unfold PySem.W.minD dBest
    rw [List.map_cons, List.foldl_cons, List.foldl_cons]
    have ih := fun z => dBest_min xs z
    unfold PySem.W.minD dBest at ih
    rw [← ih]
    simp only [Bool.false_eq_true, if_false]
    congr 1
    split <;> rfl
theorem dBest_max : ∀ (xs : List D) (x : D), PySem.W.maxD (pd x) (xs.map pd) = pd (dBest true x xs)
  | [], x => rfl
  | y :: xs, x => by
    unfold PySem.W.maxD dBest
    rw [List.map_cons, List.foldl_cons, List.foldl_cons]
    have ih := fun z => dBest_max xs z
    unfold PySem.W.maxD dBest at ih
    rw [← ih]
    simp only [if_true]
    congr 1
    split <;> rfl
/-- may these be compared -/
def bestOk (l : List D) : Bool := l.all (dep 58) && l.all plD && l.all (fun a => l.all fun b => PySem.W.alike (pd a) (pd b)) && l.all (fun a => !isNonD a)
def intsOf1 : List D → Option (List Int)
  | [] => some []
  | .int i :: l => (intsOf1 l).map (i :: ·)
  | _ :: _ => none
theorem intsOf1_map : ∀ {l : List D} {ns : List Int}, intsOf1 l = some ns → l = ns.map D.int
  | [], ns, h => by unfold intsOf1 at h; cases h; rfl
  | d :: l, ns, h => by
    cases d <;> unfold intsOf1 at h <;> try cases h
    cases e : intsOf1 l with
    | none => rw [e] at h; cases h
    | some m => rw [e] at h; cases h; rw [intsOf1_map e]; rfl
theorem intsOf1_of (ns : List Int) : intsOf1 (ns.map D.int) = some ns := by
  induction ns with
  | nil => rfl
  | cons n ns ih => simp [intsOf1, ih]
theorem bt_sum : bootBuiltins "sum" = some (.builtin "sum") := by decide +kernel
inductive Bj where
  | min | max | sum
  deriving DecidableEq
def bjE (f : Bj) (ds : List D) : Option D := match f, ds with
  | .min, [.lst (x :: xs)] => if bestOk (x :: xs) then some (dBest false x xs) else none
  | .max, [.lst (x :: xs)] => if bestOk (x :: xs) then some (dBest true x xs) else none
  | .sum, [.lst l] => (intsOf1 l).map fun ns => .int ns.sum
  | _, _ => none
def bjName : Bj → Str
  | .min => "min" | .max => "max" | .sum => "sum"
def bjVal : Bj → Value
  | .min => .builtin "min" | .max => .builtin "max" | .sum => .builtin "sum"
theorem bj_boot (f : Bj) : bootBuiltins (bjName f) = some (bjVal f) := by
  cases f
  · exact bt_min
  · exact bt_max
  · exact bt_sum
section
variable {X : Cx} {G : Gx}
theorem RVs.ints1 {M : Mp} {H : Hp} : ∀ {ns : List Int} {xs : List V}, RVs G M H (ns.map D.int) xs → xs = ns.map V.int
  | [], _, h => by cases h; rfl
  | n :: ns, _, h => by
    cases h with
    | cons h t =>
      cases h
      rw [RVs.ints1 t]; rfl
theorem each_at {α β : Type} {R : α → β → Prop} : ∀ {vs : List α} {cs : List β}, PySem.W.EachIs R vs cs → ∀ (i : Nat) (v : α), vs[i]? = some v → ∃ c, cs[i]? = some c ∧ R v c
  | _, _, .nil, i, v, h => by simp at h
  | _, _, .cons r t, 0, v, h => by simp at h; subst h; exact ⟨_, rfl, r⟩
  | _, _, .cons r t, i + 1, v, h => each_at t i v (by simpa using h)
theorem bj_D (gk : Gk G) (hK : G.K = X.K) (hc : X.calm = true) {kk : Nat} (hr : Room kk X.A) (f : Bj) : CallR X (bjVal f) (rC G (bjE f)) := by
  intro pins s σ H vs us Qv I rv ⟨ds, h, M, z, rl, rd, ez, k⟩
  obtain ⟨es, e1, w⟩ := Option.bind_eq_some_iff.mp ez
  have rd := vws_ok rl rd e1
  have core : ∀ (mx : Bool) (x : D) (xs : List D), bestOk (x :: xs) = true → z = dBest mx x xs → Vds G M H [.lst (x :: xs)] vs → wpAny (model X.prog X.w) X.A (call (.builtin (if mx then "max" else "min")) us) (EP X pins σ Qv) X.xe s := by
    intro mx x xs hb hz rd
    obtain ⟨v, rfl, r1⟩ := rd.one
    obtain ⟨p, ws, rfl, h1, r2⟩ := r1.lst
    unfold bestOk at hb
    simp only [Bool.and_eq_true] at hb
    obtain ⟨⟨⟨b1, b2⟩, b3⟩, b4⟩ := hb
    rw [List.all_eq_true] at b1 b2 b3 b4
    obtain ⟨its, ri, pl, hsz⟩ := I.list (SqL.of (K := X.K) h1)
    obtain ⟨q1, q2⟩ := each_of hK I b1 r2 ri
    obtain ⟨as, ra⟩ := PySem.W.each_readsAll pd q2
    rw [List.map_cons] at ra
    have al : PySem.W.AlikeAll (pd x :: xs.map pd) := by
      rw [← List.map_cons]
      refine ⟨fun a ha b hb => ?_, fun a ha => ?_⟩
      · obtain ⟨a', ha', rfl⟩ := List.mem_map.mp ha
        obtain ⟨b', hb', rfl⟩ := List.mem_map.mp hb
        exact List.all_eq_true.mp (b3 a' ha') b' hb'
      · obtain ⟨a', ha', rfl⟩ := List.mem_map.mp ha
        have := b4 a' ha'
        have d58 := b1 a' ha'
        cases a' <;> simp [isNonD, pd, dep] at this d58 ⊢
    have hdp : PyData.depthAll (pd x :: xs.map pd) ≤ 58 := by
      have : ∀ l : List D, (∀ d ∈ l, dep 58 d = true) → PyData.depthAll (l.map pd) ≤ 58 := by
        intro l
        induction l with
        | nil => intro _; simp [PyData.depthAll]
        | cons d l ih =>
          intro hd
          have h3 := (canLay_dep 58 d (hd d List.mem_cons_self)).2
          have h4 := ih fun e he => hd e (List.mem_cons_of_mem _ he)
          simp only [List.map_cons, PyData.depthAll]
          omega
      have := this (x :: xs) b1
      rwa [List.map_cons] at this
    have hu : X.A.units + 1 + PyData.depthAll (pd x :: xs.map pd) < cLine := by have h4 := hr.un; omega
    rw [Vals.ref1 rv]
    have back : ∀ (i : Nat) (v : Value) (h' : Heap) (tk : Nat) (bs : List Addr), its[i]? = some v → PySem.Reads h' v (pd (dBest mx x xs)) bs → (∀ b o, s.heap.get? b = some o → h'.get? b = some o) → ∃ y, RelV y v ∧ RV G M H z y := by
      intro i v h' tk bs hv hrd hk
      obtain ⟨c, hc1, y, hy1, hy2⟩ := each_at q1 i v hv
      obtain ⟨c', hc1', as', hr'⟩ := each_at q2 i v hv
      rw [hc1] at hc1'
      cases hc1'
      have hm : c ∈ x :: xs := List.mem_of_getElem? hc1
      have e := PySem.SeqAt.Reads.unique (pd c) (pd (dBest mx x xs)) v as' bs (canLay_dep 58 c (b1 c hm)).1 (PySem.W.reads_keeps hk hr') hrd
      have hm2 : dBest mx x xs ∈ x :: xs := by
        rcases dBest_mem mx xs x with e | e
        · rw [e]; exact List.mem_cons_self
        · exact List.mem_cons_of_mem _ e
      have := pd_inj (b2 c hm) (b2 _ hm2) e
      exact ⟨y, hy1, by rw [hz, ← this]; exact hy2⟩
    cases mx with
    | false =>
      refine PySem.W.min_list_data (I.ok.hd hc) pl.isList (vs := its.toArray) (by simpa using ra) al hu fun i v h' tk bs hv hrd hk => ?_
      obtain ⟨y, y1, y2⟩ := back i v h' tk bs (by simpa using hv) (by rw [← dBest_min]; exact hrd) hk
      exact ⟨y, H, I.kept hk, y1, k.here rl y2⟩
    | true =>
      refine PySem.W.max_list_data (I.ok.hd hc) pl.isList (vs := its.toArray) (by simpa using ra) al hu fun i v h' tk bs hv hrd hk => ?_
      obtain ⟨y, y1, y2⟩ := back i v h' tk bs (by simpa using hv) (by rw [← dBest_max]; exact hrd) hk
      exact ⟨y, H, I.kept hk, y1, k.here rl y2⟩
  unfold bjE at w
  split at w
  · split at w
    · rename_i hb; cases w; exact core false _ _ hb rfl rd
    · cases w
  · split at w
    · rename_i hb; cases w; exact core true _ _ hb rfl rd
    · cases w
  · obtain ⟨ns, e2, w⟩ := Option.map_eq_some_iff.mp w
    subst w
    have e3 := intsOf1_map e2
    subst e3
    obtain ⟨v, rfl, r1⟩ := rd.one
    obtain ⟨p, ws, rfl, h1, r2⟩ := r1.lst
    have e2 := RVs.ints1 r2
    subst e2
    exact cr_sum hc pins s σ H _ us Qv I rv ⟨_, _, rfl, SqL.of h1, k.here rl (.int _)⟩
  · cases w
end
def Xp.bj (f : Bj) (xs : List Xo) : Xp where
  sem r h := (semB xs r h).bind fun ds h1 => ofO (onL (bjE f) h1 ds) h1
  ok := nameB (bjName f) (okB xs)
  need t := BtL t (bjName f) ∧ needB xs t
  star _ a h := by obtain ⟨p, e, es, q, rfl, _⟩ := nameB_some h; rfl
  snd {X G ck k Wx a} C h n := by
    obtain ⟨p, e, es, q, rfl, hg, ho⟩ := nameB_some h
    refine PE.imp (pe_bi C (by cases f <;> exact .inl ⟨_, rfl⟩) (bj_D C.gk C.hK C.calm C.room f) (bj_boot f) hg n.1 ho n.2) fun σ H Qv ⟨r, hh, M, rl, re, k⟩ => ⟨r, hh, M, rl, re, one k fun d v h1 M1 H1 e1 r1 b1 k1 => ?_⟩
    cases q : onL (bjE f) h1 d with
    | none => rw [q] at k1; exact k1.elim
    | some z => rw [q] at k1; exact ⟨d, h1, M1, z, r1, b1, q, k1⟩
@[simp] theorem m_bj {f : Bj} {xs : List Xo} {r : Rho} {h : Hh} : (Xp.bj f xs).sem r h = (semB xs r h).bind fun ds h1 => ofO (onL (bjE f) h1 ds) h1 := rfl
theorem nd_Xp_bj {tb : Tb} {f : Bj} {xs : List Xo} : (Xp.bj f xs).need tb = (BtL tb (bjName f) ∧ needB xs tb) := rfl
end Pf

set_option Elab.async false
set_option linter.all false
set_option maxRecDepth 100000
set_option maxHeartbeats 1000000
/-! ## if ..: return f(.., functions made here); and what follows -/
namespace Pf
open PySem L2 NdefX LamX
def Lst.ife (t : Xt) (L : Lst) (b : List Si) : Lst where
  sem r h := ((t.sem r h).st r fun c h1 => if c then L.sem r h1 else .nx r h1).then (semSs b)
  ok ck st := match st with
    | .If c x [] _ :: rest => t.ok ck c && L.ok ck x && okSs b ck rest
    | _ => false
  lk G ck q nm st := match st with
    | .If c x [] _ :: rest => L.lk G ck q nm x
    | _ => False
  need z := t.need z ∧ L.need z ∧ needSs b z
  snd {X G ck k Wx st q c P nm} C hblk hk mk hcG ho lk n := by
    split at ho
    · simp only [Bool.and_eq_true] at ho
      obtain ⟨⟨h1, h2⟩, h3⟩ := ho
      refine PSs.imp (pss_cons (ps_if (t.snd C h1 n.1) (L.snd C hblk hk mk hcG h2 lk n.2.1) (sndSs [] C hk rfl trivial)) (sndSs b C hk h3 n.2.2)) fun Dn σ H ⟨M0, H0, r, hh, M, s, k⟩ => ⟨r, hh, M, s.rl, s.re, oneS C.gk s (ss_ext k) fun d v h1 M1 H1 e1 s1 rv k1 => ?_⟩
      subst rv
      cases d with
      | true => exact ⟨M0, H0, r, h1, M1, s1, k1⟩
      | false => exact ⟨M0, H0, r, h1, M1, s1, k1⟩
    · cases ho
def ifB : Stmt → List Stmt
  | .If _ x _ _ => x
  | _ => []
def ifT : Stmt → Expr
  | .If t _ _ _ => t
  | _ => .Constant .none 0 ⟨0, 0, 0, 0⟩
def ifP : Stmt → Pos
  | .If _ _ _ p => p
  | _ => ⟨0, 0, 0, 0⟩
theorem nd_Lst_ife {tb : Tb} {t : Xt} {L : Lst} {b : List Si} : (Lst.ife t L b).need tb = (t.need tb ∧ L.need tb ∧ needSs b tb) := rfl
end Pf

set_option Elab.async false
set_option linter.all false
set_option maxRecDepth 100000
set_option maxHeartbeats 2000000
/-! ## [e for a in xs if b for c in ys if d] -/
namespace Pf
open PySem L2 NdefX LamX
def noOw (r : Rho) : Bool := r.all fun s => match s with
  | .ow _ => false
  | _ => true
theorem noOw_get {r : Rho} (h : noOw r = true) {i : Nat} {d : D} (e : r[i]? = some (.ow d)) : False := by
  have := List.all_eq_true.mp h _ (List.mem_of_getElem? e)
  simp at this
theorem RE.poke {G : Gx} (gk : Gk G) {M : Mp} {H H' : Hp} {r : Rho} {σ : St} (x : RE G M H r σ) (no : noOw r = true) (kp : Keep M H M H') : RE G M H' r σ where
  len := x.len
  pl := fun i d q => let ⟨v, a, b⟩ := x.pl i d q; ⟨v, a, b.keep gk kp⟩
  ow := fun i d q => (noOw_get no q).elim
  one := fun i j d e a q1 q2 s1 s2 => (noOw_get no q1).elim
/-- n: so many items at the most so far -/
def lc2Go (t : Tg) (b : Rho → Hh → Res Bool) (it1 : Rho → Hh → Res (List D)) (t1 : Tg) (b1 : Rho → Hh → Res Bool) (e : Rho → Hh → Res D) (r : Rho) : Nat → List D → Hh → Res (List D)
  | _, [], h => .ok [] h
  | n, x :: xs, h => match t.put x r with
    | none => .no
    | some r2 => (noX (b r2 h)).bind fun c h1 => if c then (noX (it1 r2 h1)).bind fun ys h2 => if noOw r2 = true ∧ n + ys.length ≤ line then (lcGo t1 b1 e (wipeR r2 (Tg.sl t1)) ys h2).bind fun ds h3 => (lc2Go t b it1 t1 b1 e r (n + ys.length) xs h3).bind fun es h4 => .ok (ds ++ es) h4 else .no
        else lc2Go t b it1 t1 b1 e r n xs h1
def lc2Sem (e : Xp) (t : Tg) (it : Ib) (ifs : Option Xt) (t1 : Tg) (it1 : Ib) (ifs1 : Option Xt) (own : List (Str × Nat)) (r : Rho) (h : Hh) : Res D := (it.sem r h).bind fun xs h1 => (lc2Go t (semT ifs) it1.sem t1 (semT ifs1) e.sem (wipeR r (own.map (·.2))) 0 xs h1).bind fun ds h2 => .ok (.lst ds) h2
def lc2B (e : Xp) (t : Tg) (it : Ib) (ifs : Option Xt) (t1 : Tg) (it1 : Ib) (ifs1 : Option Xt) (own : List (Str × Nat)) (ck : Ck) (a : Expr) : Bool := match a with
  | .ListComp x [⟨tg, iter, cs, 0⟩, ⟨tg1, iter1, cs1, 0⟩] scope _ => blkC ck.N ck.sc scope own && (Tg.sl t).all (fun i => decide (i ∈ own.map (·.2))) && it.ok ck iter && Tg.ok ⟨ck.N, relS scope ck.sc, true⟩ t tg && okT ifs ⟨ck.N, relS scope ck.sc, true⟩ cs && e.ok ⟨ck.N, relS scope ck.sc, true⟩ x && it.tgt tg &&
      (Tg.sl t1).all (fun i => decide (i ∈ own.map (·.2))) && it1.ok ⟨ck.N, relS scope ck.sc, true⟩ iter1 && Tg.ok ⟨ck.N, relS scope ck.sc, true⟩ t1 tg1 && okT ifs1 ⟨ck.N, relS scope ck.sc, true⟩ cs1 && it1.tgt tg1
  | _ => false
theorem wipe_idem {σ : St} {vs ns : List Nat} (hn : ∀ i ∈ ns, i ∈ vs) : wipe (wipe σ ns) vs = wipe σ vs := by
  refine List.ext_getElem? fun i => ?_
  rw [wipe_get, wipe_get, wipe_get, wipe_length]
  by_cases hi : i ∈ vs ∧ i < σ.length
  · rw [if_pos hi, if_pos hi]
  · rw [if_neg hi, if_neg hi]
    by_cases hv : i ∈ vs
    · have : ¬ i < σ.length := fun z => hi ⟨hv, z⟩
      rw [if_neg (fun z => this z.2)]
    · rw [if_neg (fun z => hv (hn i z.1))]
theorem lc2_read {X : Cx} {G : Gx} {ck : Ck} {k : Nat} {Wx : WX} (C : Cok X G ck k Wx) {e : Xp} {t : Tg} {it : Ib} {ifs : Option Xt} {t1 : Tg} {it1 : Ib} {ifs1 : Option Xt} {own : List (Str × Nat)} (h2 : (Tg.sl t).all (fun i => decide (i ∈ own.map (·.2))) = true) (h3 : (Tg.sl t1).all (fun i => decide (i ∈ own.map (·.2))) = true) :
    ∀ σ H Qv, tN G Wx (lc2Sem e t it ifs t1 it1 ifs1 own) σ H Qv → tLc2 (tI G Wx it.sem) (gT G t) (tG (fun _ _ (b c : Bool) => b = c) G W0 (semT ifs)) (tI G W0 it1.sem) (gT G t1) (tG (fun _ _ (b c : Bool) => b = c) G W0 (semT ifs1)) (tG (RV G) G W0 e.sem) (own.map (·.2)) (Tg.sl t1) σ H Qv := by
  intro σ H Qv ⟨r, hh, M, rl, re, k⟩
  refine ⟨r, hh, M, rl, re, ?_⟩
  unfold lc2Sem at k
  cases q0 : it.sem r hh with
  | no => rw [q0] at k; exact k
  | exc c fs h' => rw [q0] at k; exact k
  | ok xs hx =>
    rw [q0] at k
    simp only [bind_ok] at k
    intro J M1 H1 e1 r1 ok Dd hD
    have k := k.back e1
    refine ⟨fun i m H' => m = xs.length - i ∧ i ≤ xs.length ∧ ∃ n acc avs h' M', acc.length ≤ n ∧ Ext M1 H1 M' H' ∧ RL G h' M' H' ∧ H' Dd = some (.lst avs) ∧ Dd ∉ M'.bs ∧ ¬ M'.F Dd ∧ RVs G M' H' acc avs ∧
        KG (RN H G) G Wx σ M1 H1 Qv ((lc2Go t (semT ifs) it1.sem t1 (semT ifs1) e.sem (wipeR r (own.map (·.2))) n (xs.drop i) h').bind fun ds h2 => .ok (.lst (acc ++ ds)) h2),
      ⟨xs.length, by simp, Nat.zero_le _, 0, [], [], hx, M1, by simp, Ext.loose hD, r1.poke C.gk (r1.free hD) (r1.freeF hD) (nt_none hD), upd_same, r1.free hD, r1.freeF hD, .nil, k⟩, ?_⟩
    rintro i m H' ⟨rfl, hi', n, acc, avs, h', M', ha, e2, r2, at2, n2, f2, ra, k2⟩
    have ok2 := ok h' M' H' (e2.kp r1) r2
    by_cases hlt : i < xs.length
    · refine .inr ⟨(ok2.1 i hlt).1, fun H4 => ∃ n acc avs h4 M4, acc.length ≤ n ∧ Ext M1 H1 M4 H4 ∧ RL G h4 M4 H4 ∧ H4 Dd = some (.lst avs) ∧ Dd ∉ M4.bs ∧ ¬ M4.F Dd ∧ RVs G M4 H4 acc avs ∧
        KG (RN H G) G Wx σ M1 H1 Qv ((lc2Go t (semT ifs) it1.sem t1 (semT ifs1) e.sem (wipeR r (own.map (·.2))) n (xs.drop (i + 1)) h4).bind fun ds h2 => .ok (.lst (acc ++ ds)) h2), fun H4 q => ⟨xs.length - (i + 1), by omega, rfl, by omega, q⟩, fun y H3 hy => ?_⟩
      obtain ⟨d, M3, ed, e3, r3, rv3⟩ := (ok2.1 i hlt).2 y H3 hy
      have re3 := (((re.ext C.gk rl e1).ext C.gk r1 e2).ext C.gk r2 e3).wipe (own.map (·.2))
      have hdrop : xs.drop i = d :: xs.drop (i + 1) := by
        rw [List.drop_eq_getElem_cons hlt]
        rw [List.getElem?_eq_getElem hlt] at ed
        cases ed; rfl
      rw [hdrop, lc2Go] at k2
      split at k2
      · exact k2.elim
      · rename_i r4 ep
        have lo : ∀ {M4 : Mp} {H4 : Hp}, Ext M' H' M4 H4 → H4 Dd = some (.lst avs) ∧ Dd ∉ M4.bs ∧ ¬ M4.F Dd := fun {M4 H4} e4 => ⟨e4.keep _ _ at2 n2 trivial, e4.off at2 n2, e4.offF r2 at2 trivial n2 f2⟩
        refine ⟨d, _, h', M3, r4, r3, re3, rv3, ep, fun σ' re' si => ⟨wipe_same si fun j hj => by simpa using List.all_eq_true.mp h2 j hj, ?_⟩⟩
        cases q1 : semT ifs r4 h' with
        | no => rw [q1] at k2; exact k2.elim
        | exc c fs hq => rw [q1] at k2; exact k2.elim
        | ok c h5 =>
          rw [q1] at k2
          simp only [noX_ok, bind_ok] at k2
          refine ⟨r4, h', M3, r3, re', ?_⟩
          rw [q1]
          rintro _ M4 H4 e4 rl4 rfl
          cases c with
          | false =>
            simp only [Bool.false_eq_true, if_false] at k2 ⊢
            obtain ⟨l1, l2, l3⟩ := lo (e3.trans e4)
            exact ⟨n, acc, avs, h5, M4, ha, (e2.trans e3).trans e4, rl4, l1, l2, l3, (ra.ext C.gk r2 e3).ext C.gk r3 e4, k2⟩
          | true =>
            simp only [if_true] at k2 ⊢
            have re4 := re'.ext C.gk r3 e4
            refine ⟨r4, h5, M4, rl4, re4, ?_⟩
            cases q2 : it1.sem r4 h5 with
            | no => rw [q2] at k2; exact k2.elim
            | exc c fs hq => rw [q2] at k2; exact k2.elim
            | ok ys h6 =>
              rw [q2] at k2
              simp only [noX_ok, bind_ok] at k2
              split at k2
              · rename_i hny2
                obtain ⟨hno, hny⟩ := hny2
                intro J1 M5 H5 e5 rl5 ok5
                obtain ⟨l1, l2, l3⟩ := lo ((e3.trans e4).trans e5)
                have ra5 := ((ra.ext C.gk r2 e3).ext C.gk r3 e4).ext C.gk rl4 e5
                have re5 := re4.ext C.gk rl4 e5
                refine ⟨fun j m H' => m = ys.length - j ∧ j ≤ ys.length ∧ ∃ acc avs h' M', acc.length ≤ n + j ∧ Keep M5 H5 M' H' ∧ RE G M' H' r4 σ' ∧ Ext M1 H1 M' H' ∧ RL G h' M' H' ∧ H' Dd = some (.lst avs) ∧ Dd ∉ M'.bs ∧ ¬ M'.F Dd ∧ RVs G M' H' acc avs ∧
                    KG (RN H G) G Wx σ M1 H1 Qv ((lcGo t1 (semT ifs1) e.sem (wipeR r4 (Tg.sl t1)) (ys.drop j) h').bind fun ds h3 => (lc2Go t (semT ifs) it1.sem t1 (semT ifs1) e.sem (wipeR r (own.map (·.2))) (n + ys.length) (xs.drop (i + 1)) h3).bind fun es h4 => .ok (.lst (acc ++ ds ++ es)) h4),
                  ⟨ys.length, by simp, Nat.zero_le _, acc, avs, h6, M5, ha, Keep.refl, re5, ((e2.trans e3).trans e4).trans e5, rl5, l1, l2, l3, ra5, ?_⟩, ?_⟩
                · have ea : ∀ (m : Res (List D)) (f : List D → Hh → Res (List D)), ((m.bind fun ds h3 => (f ds h3).bind fun es h4 => Res.ok (ds ++ es) h4).bind fun ds h2 => Res.ok (D.lst (acc ++ ds)) h2) = m.bind fun ds h3 => (f ds h3).bind fun es h4 => Res.ok (D.lst (acc ++ ds ++ es)) h4 := by
                    intro m f
                    cases m with
                    | ok ds h3 => simp only [bind_ok]; cases f ds h3 <;> simp
                    | _ => rfl
                  rw [ea] at k2
                  exact k2
                · rintro j m H' ⟨rfl, hj', acc, avs, h', M', ha, kp5, re6, e6, r6, at6, n6, f6, ra6, k6⟩
                  have ok6 := ok5 h' M' H' kp5 r6
                  by_cases hltj : j < ys.length
                  · refine .inr ⟨(ok6.1 j hltj).1, fun H4 => ∃ acc avs h4 M4, acc.length ≤ n + (j + 1) ∧ Keep M5 H5 M4 H4 ∧ RE G M4 H4 r4 σ' ∧ Ext M1 H1 M4 H4 ∧ RL G h4 M4 H4 ∧ H4 Dd = some (.lst avs) ∧ Dd ∉ M4.bs ∧ ¬ M4.F Dd ∧ RVs G M4 H4 acc avs ∧
                      KG (RN H G) G Wx σ M1 H1 Qv ((lcGo t1 (semT ifs1) e.sem (wipeR r4 (Tg.sl t1)) (ys.drop (j + 1)) h4).bind fun ds h3 => (lc2Go t (semT ifs) it1.sem t1 (semT ifs1) e.sem (wipeR r (own.map (·.2))) (n + ys.length) (xs.drop (i + 1)) h3).bind fun es h4 => .ok (.lst (acc ++ ds ++ es)) h4), fun H4 q => ⟨ys.length - (j + 1), by omega, rfl, by omega, q⟩, fun y H7 hy => ?_⟩
                    obtain ⟨d1, M7, ed1, e7, r7, rv7⟩ := (ok6.1 j hltj).2 y H7 hy
                    have re7 := re6.ext C.gk r6 e7
                    have re7w := re7.wipe (Tg.sl t1)
                    have hdropj : ys.drop j = d1 :: ys.drop (j + 1) := by
                      rw [List.drop_eq_getElem_cons hltj]
                      rw [List.getElem?_eq_getElem hltj] at ed1
                      cases ed1; rfl
                    rw [hdropj, lcGo] at k6
                    split at k6
                    · exact k6.elim
                    · rename_i r8 ep8
                      have lo6 : ∀ {M8 : Mp} {H8 : Hp}, Ext M' H' M8 H8 → H8 Dd = some (.lst avs) ∧ Dd ∉ M8.bs ∧ ¬ M8.F Dd := fun {M8 H8} e8 => ⟨e8.keep _ _ at6 n6 trivial, e8.off at6 n6, e8.offF r6 at6 trivial n6 f6⟩
                      refine ⟨d1, _, h', M7, r8, r7, re7w, rv7, ep8, fun σ8 re8 si8 => ⟨wipe_same si8 fun j hj => hj, ?_⟩⟩
                      cases q8 : semT ifs1 r8 h' with
                      | no => rw [q8] at k6; exact k6.elim
                      | exc c fs hq => rw [q8] at k6; exact k6.elim
                      | ok c h9 =>
                        rw [q8] at k6
                        simp only [noX_ok, bind_ok] at k6
                        refine ⟨r8, h', M7, r7, re8, ?_⟩
                        rw [q8]
                        rintro _ M9 H9 e9 rl9 rfl
                        cases c with
                        | false =>
                          simp only [Bool.false_eq_true, if_false] at k6 ⊢
                          obtain ⟨l1, l2, l3⟩ := lo6 (e7.trans e9)
                          exact ⟨acc, avs, h9, M9, by omega, kp5.trans ((e7.trans e9).kp r6), re7.ext C.gk r7 e9, (e6.trans e7).trans e9, rl9, l1, l2, l3, (ra6.ext C.gk r6 e7).ext C.gk r7 e9, k6⟩
                        | true =>
                          simp only [if_true] at k6 ⊢
                          cases q9 : e.sem r8 h9 with
                          | no => rw [q9] at k6; exact k6.elim
                          | exc c fs hq => rw [q9] at k6; exact k6.elim
                          | ok dz h10 =>
                            rw [q9] at k6
                            simp only [noX_ok, bind_ok] at k6
                            refine ⟨r8, h9, M9, rl9, re8.ext C.gk r7 e9, ?_⟩
                            rw [q9]
                            intro z M10 H10 e10 r10 rz
                            obtain ⟨l1, l2, l3⟩ := lo6 ((e7.trans e9).trans e10)
                            have ra10 := ((ra6.ext C.gk r6 e7).ext C.gk r7 e9).ext C.gk rl9 e10
                            have hz : avs.length < sizeLine := by
                              rw [← ra10.length, ← line_eq]
                              omega
                            have kp10 : Keep M10 H10 M10 (upd H10 Dd (.lst (avs ++ [z]))) := Keep.poke l3
                            refine ⟨avs, l1, hz, acc ++ [dz], avs ++ [z], h10, M10, by simp; omega, (kp5.trans (((e7.trans e9).trans e10).kp r6)).trans kp10, ?_, kn_up (h := h10) C.gk (((e6.trans e7).trans e9).trans e10) hD, r10.poke C.gk l2 l3 (nt_some l1 trivial), upd_same, l2, l3, (ra10.append (.cons rz .nil)).keep C.gk kp10, ?_⟩
                            · exact ((re7.ext C.gk r7 e9).ext C.gk rl9 e10).poke C.gk hno kp10
                            · have ea : ∀ (m : Res (List D)) (f : List D → Hh → Res (List D)), ((m.bind fun ds h3 => Res.ok (dz :: ds) h3).bind fun ds h3 => (f ds h3).bind fun es h4 => Res.ok (D.lst (acc ++ ds ++ es)) h4) = m.bind fun ds h3 => (f (dz :: ds) h3).bind fun es h4 => Res.ok (D.lst (acc ++ [dz] ++ ds ++ es)) h4 := by
                                intro m f
                                cases m with
                                | ok ds h3 => simp
                                | _ => rfl
                              rw [ea] at k6
                              exact k6
                  · have ei : ys.drop j = [] := List.drop_eq_nil_iff.mpr (by omega)
                    rw [ei, lcGo] at k6
                    simp only [bind_ok, List.append_nil] at k6
                    exact .inl ⟨ok6.2 j (by omega), n + ys.length, acc, avs, h', M', by omega, e6, r6, at6, n6, f6, ra6, k6⟩
              · exact k2.elim
    · have ei : xs.drop i = [] := List.drop_eq_nil_iff.mpr (by omega)
      rw [ei, lc2Go] at k2
      simp only [bind_ok, List.append_nil] at k2
      exact .inl ⟨ok2.2 i (by omega), k2 _ M' H' e2 r2 ⟨Dd, rfl, .lst at2 ra, n2, f2, e1.trk _ hD⟩⟩
theorem lc2B_some {e : Xp} {t : Tg} {it : Ib} {ifs : Option Xt} {t1 : Tg} {it1 : Ib} {ifs1 : Option Xt} {own : List (Str × Nat)} {ck : Ck} {a : Expr} (h : lc2B e t it ifs t1 it1 ifs1 own ck a = true) : ∃ x tg iter cs tg1 iter1 cs1 scope p, a = .ListComp x [⟨tg, iter, cs, 0⟩, ⟨tg1, iter1, cs1, 0⟩] scope p ∧ blkC ck.N ck.sc scope own = true ∧ (Tg.sl t).all (fun i => decide (i ∈ own.map (·.2))) = true ∧ it.ok ck iter = true ∧ Tg.ok ⟨ck.N, relS scope ck.sc, true⟩ t tg = true ∧ okT ifs ⟨ck.N, relS scope ck.sc, true⟩ cs = true ∧ e.ok ⟨ck.N, relS scope ck.sc, true⟩ x = true ∧ it.tgt tg = true ∧
    (Tg.sl t1).all (fun i => decide (i ∈ own.map (·.2))) = true ∧ it1.ok ⟨ck.N, relS scope ck.sc, true⟩ iter1 = true ∧ Tg.ok ⟨ck.N, relS scope ck.sc, true⟩ t1 tg1 = true ∧ okT ifs1 ⟨ck.N, relS scope ck.sc, true⟩ cs1 = true ∧ it1.tgt tg1 = true := by
  unfold lc2B at h
  split at h
  · simp only [Bool.and_eq_true] at h
    obtain ⟨⟨⟨⟨⟨⟨⟨⟨⟨⟨⟨h1, h2⟩, h3⟩, h4⟩, h5⟩, h6⟩, h7⟩, h8⟩, h9⟩, h10⟩, h11⟩, h12⟩ := h
    exact ⟨_, _, _, _, _, _, _, _, _, rfl, h1, h2, h3, h4, h5, h6, h7, h8, h9, h10, h11, h12⟩
  · cases h
/-- [e for t in it if b for t1 in it1 if b1] -/
def Xn.lc2 (e : Xp) (t : Tg) (it : Ib) (ifs : Option Xt) (t1 : Tg) (it1 : Ib) (ifs1 : Option Xt) (own : List (Str × Nat)) : Xn where
  sem := lc2Sem e t it ifs t1 it1 ifs1 own
  ok := lc2B e t it ifs t1 it1 ifs1 own
  need b := e.need b ∧ it.need b ∧ needT ifs b ∧ it1.need b ∧ needT ifs1 b
  star _ a h := by obtain ⟨_, _, _, _, _, _, _, _, _, rfl, _⟩ := lc2B_some h; rfl
  snd {X G ck k Wx a} C h n := by
    obtain ⟨x, tg, iter, cs, tg1, iter1, cs1, scope, p, rfl, h1, h2, h3, h4, h5, h6, h7, h8, h9, h10, h11, h12⟩ := lc2B_some h
    exact PE.imp (pe_lc2 C.calm C.nd (it.snd C h7 h3 n.2.1) (blkOk_by (by rw [C.hN, C.hsc]; exact h1)) (fun i hi => by simpa using List.all_eq_true.mp h8 i hi)
      (fun s H Cc cl fp => sg_T (C.blk (s := s) (H := H) (scope := scope) (Cc := Cc) (cl := cl) (fp := fp)) t h4)
      (fun s H Cc cl fp => sndT ifs (C.blk (s := s) (H := H) (scope := scope) (Cc := Cc) (cl := cl) (fp := fp)) h5 n.2.2.1)
      (fun s H Cc cl fp => it1.snd (C.blk (s := s) (H := H) (scope := scope) (Cc := Cc) (cl := cl) (fp := fp)) h12 h9 n.2.2.2.1)
      (fun s H Cc cl fp => sg_T (C.blk (s := s) (H := H) (scope := scope) (Cc := Cc) (cl := cl) (fp := fp)) t1 h10)
      (fun s H Cc cl fp => sndT ifs1 (C.blk (s := s) (H := H) (scope := scope) (Cc := Cc) (cl := cl) (fp := fp)) h11 n.2.2.2.2)
      (fun s H Cc cl fp => e.snd (C.blk (s := s) (H := H) (scope := scope) (Cc := Cc) (cl := cl) (fp := fp)) h6 n.1) (by
        have h4 := it.set _ _ h3
        intro v
        cases iter <;> first | rfl | (simp [notSet] at h4)) (by
        have h4 := it1.set _ _ h9
        intro env v
        cases iter1 <;> first | rfl | (simp [notSet] at h4))) (lc2_read C h2 h8)
@[simp] theorem mn_lc2 {e : Xp} {t : Tg} {it : Ib} {ifs : Option Xt} {t1 : Tg} {it1 : Ib} {ifs1 : Option Xt} {own : List (Str × Nat)} {r : Rho} {h : Hh} : (Xn.lc2 e t it ifs t1 it1 ifs1 own).sem r h = lc2Sem e t it ifs t1 it1 ifs1 own r h := rfl
theorem nd_Xn_lc2 {tb : Tb} {e : Xp} {t : Tg} {it : Ib} {ifs : Option Xt} {t1 : Tg} {it1 : Ib} {ifs1 : Option Xt} {own : List (Str × Nat)} : (Xn.lc2 e t it ifs t1 it1 ifs1 own).need tb = (e.need tb ∧ it.need tb ∧ needT ifs tb ∧ it1.need tb ∧ needT ifs1 tb) := rfl
end Pf

set_option Elab.async false
set_option linter.all false
set_option maxRecDepth 100000
set_option maxHeartbeats 1000000
/-! ## len(set(x)), x a list of tuples of whole numbers -/
namespace Pf
open PySem L2 PySem.Spec PyProof.Rows
def tupsOf : List D → Option (List (List Int))
  | [] => some []
  | .tup t :: l => match intsOf1 t, tupsOf l with
    | some ns, some m => some (ns :: m)
    | _, _ => none
  | _ :: _ => none
/-- how many different -/
def manyOf {α : Type} [DecidableEq α] : List α → Nat
  | [] => 0
  | x :: l => (if x ∈ l then 0 else 1) + manyOf l
def nubOf {α : Type} [DecidableEq α] : List α → List α
  | [] => []
  | x :: l => if x ∈ l then nubOf l else x :: nubOf l
theorem nubOf_mem {α : Type} [DecidableEq α] : ∀ (l : List α) (y : α), y ∈ nubOf l ↔ y ∈ l
  | [], y => Iff.rfl
  | x :: l, y => by
    unfold nubOf
    split
    · rename_i h
      rw [nubOf_mem l y, List.mem_cons]
      exact ⟨.inr, fun z => z.elim (fun e => e ▸ h) id⟩
    · rw [List.mem_cons, List.mem_cons, nubOf_mem l y]
theorem nubOf_nd {α : Type} [DecidableEq α] : ∀ (l : List α), (nubOf l).Nodup
  | [] => List.nodup_nil
  | x :: l => by
    unfold nubOf
    split
    · exact nubOf_nd l
    · rename_i h
      exact List.nodup_cons.mpr ⟨fun z => h ((nubOf_mem l x).mp z), nubOf_nd l⟩
theorem nubOf_len {α : Type} [DecidableEq α] : ∀ (l : List α), (nubOf l).length = manyOf l
  | [] => rfl
  | x :: l => by
    unfold nubOf manyOf
    split
    · rw [nubOf_len l]; omega
    · rw [List.length_cons, nubOf_len l]; omega
theorem many_of {α : Type} [DecidableEq α] {L l : List α} (nd : L.Nodup) (h : ∀ y, y ∈ L ↔ y ∈ l) : L.length = manyOf l := by
  rw [← nubOf_len l]
  exact ((List.perm_ext_iff_of_nodup nd (nubOf_nd l)).mpr fun y => (h y).trans (nubOf_mem l y).symm).length_eq
def lenSetD (h : Hh) : Option D → Res D
  | some (.lst l) => match tupsOf l with
    | some m => if m.length < 64 then .ok (.int (manyOf m : Nat)) h else .no
    | none => .no
  | _ => .no
section
variable {X : Cx} {G : Gx}
theorem tups_at {M : Mp} {H : Hp} (hK : G.K = X.K) : ∀ {l : List D} {m : List (List Int)} {vs : List V}, tupsOf l = some m → RVs G M H l vs → ∃ ks : List (Addr × List Int), vs = ks.map (fun p => V.ref p.1) ∧ m = ks.map (·.2) ∧ ∀ p ∈ ks, SqT X.K H p.1 (p.2.map V.int)
  | [], m, vs, h, rv => by
    cases rv
    cases h
    exact ⟨[], rfl, rfl, fun _ z => nomatch z⟩
  | d :: l, m, vs, h, rv => by
    cases d <;> unfold tupsOf at h <;> try cases h
    rename_i t
    split at h
    · rename_i ns m' e1 e2
      cases h
      cases rv with
      | cons r1 r2 =>
        obtain ⟨ks, a1, a2, a3⟩ := tups_at hK e2 r2
        have e3 := intsOf1_map e1
        subst e3
        cases r1 with
        | tup ta tr =>
          rename_i a xs
          have e4 := RVs.ints1 tr
          subst e4
          refine ⟨(a, ns) :: ks, by rw [a1]; rfl, by rw [a2]; rfl, fun p hp => ?_⟩
          rcases List.mem_cons.mp hp with e | e
          · subst e; exact ta.sq hK
          · exact a3 p e
    · cases h
def tLenSetT (K : PySem.W.Frag) (ta : TE) : TE := fun σ H Q => ta σ H fun x H1 => ∃ (l : Addr) (ks : List (Addr × List Int)), x = V.ref l ∧ SqL K H1 l (ks.map fun p => V.ref p.1) ∧ (∀ p ∈ ks, SqT K H1 p.1 (p.2.map V.int)) ∧ ks.length < 64 ∧ Q (.int (manyOf (ks.map (·.2)) : Nat)) H1
theorem pe_lenSetT {a : Expr} {ta : TE} {p p2 q pos : Pos} (hc : X.calm = true) (hu : X.A.units + 64 < cLine) (hg : Gl X "len") (hm : X.mg "len" = none) (hg2 : Gl X "set") (hm2 : X.mg "set" = none) (ha : PE X a ta)
    (na : starEach [a] X.env = (false, eval a X.env) :: starEach [] X.env) : PE X (.Call (.Name "len" p) [.Call (.Name "set" p2) [a] [] q] [] pos) (tLenSetT X.K ta) := by
  refine ⟨fun pins s σ H Q I h => ?_⟩
  refine Call_ (ld_blt I hg hm PySem.boot_len ?_)
  refine PyProof.Rows.callWith_builtin1 (PyProof.Rows.args_cons ?_ rfl) rfl rfl
  refine Call_ (ld_blt I hg2 hm2 PyProof.Rows.boot_set ?_)
  refine PyProof.Rows.callWith_type1 (PyProof.Rows.args_cons (thn (ha.run pins s σ H _ I h) fun v s1 ⟨x, H1, I1, r1, q1⟩ => PyProof.Rows.args_nil ?_) na) na rfl
  obtain ⟨l, ks, rfl, hq, hk, hf, q1⟩ := q1
  cases r1
  obtain ⟨its, rv, pl, hz⟩ := I1.list hq
  refine call_set_tups (P := X.prog) (w := X.w) ks (I1.ok.hd hc) pl.isList (by simpa using refs_of_vals rv) (fun p hp => I1.isT (hk p hp)) hf (by omega) fun h' tk L es ep t R g k => ?_
  refine PyProof.Rows.args_nil ?_
  obtain ⟨o, ho, hex, hd⟩ := R.ob
  have R' : SetTR X.prog X.w ({ s1 with heap := h', toks := tk } : Shared).heap s1.heap.objs.size L es ep t := R
  have hn : es.size = manyOf (ks.map (·.2)) := by
    rw [R'.size, ← List.length_map (f := fun p : Addr × List Int => p.2)]
    refine many_of R.nd fun y => ⟨fun hy => ?_, fun hy => ?_⟩
    · obtain ⟨p, hp, rfl⟩ := List.mem_map.mp hy
      exact List.mem_map.mpr ⟨p, List.mem_of_mem_take (g.sub p hp), rfl⟩
    · obtain ⟨p, hp, rfl⟩ := List.mem_map.mp hy
      exact g.all p (by rw [List.take_length]; exact hp)
  have hfew := R.few
  have hsz := R'.size
  have I2 : Inv X pins σ H1 { s1 with heap := h', toks := tk } := I1.kept fun b o e => k b o e
  exact call_len_set ho hex hd R'.fits (by omega) ⟨.int (manyOf (ks.map (·.2)) : Nat), H1, I2.tok _, ⟨_, by rw [hn]⟩, q1⟩
end
def lenSetB (x : Xo) (ck : Ck) (a : Expr) : Bool := match a with
  | .Call (.Name g _) [.Call (.Name f _) [e] [] _] [] _ => g == ("len" : Str) && f == ("set" : Str) && globB ck g && globB ck f && x.ok ck e
  | _ => false
theorem lenSetB_some {x : Xo} {ck : Ck} {a : Expr} (h : lenSetB x ck a = true) : ∃ p e q r t, a = .Call (.Name "len" p) [.Call (.Name "set" q) [e] [] r] [] t ∧ globB ck "len" = true ∧ globB ck "set" = true ∧ x.ok ck e = true := by
  unfold lenSetB at h
  split at h
  · simp only [Bool.and_eq_true, beq_iff_eq] at h
    obtain ⟨⟨⟨⟨rfl, rfl⟩, h1⟩, h2⟩, h3⟩ := h
    exact ⟨_, _, _, _, _, rfl, h1, h2, h3⟩
  · cases h
def Xp.lenset (x : Xo) : Xp where
  sem r h := (x.sem r h).bind fun d h1 => lenSetD h1 (vw h1 d)
  ok := lenSetB x
  need t := BtL t "len" ∧ BtL t "set" ∧ x.need t
  star _ a h := by obtain ⟨p, e, q, r, t, rfl, _⟩ := lenSetB_some h; rfl
  snd {X G ck k Wx a} C h n := by
    obtain ⟨p, e, q, r, t, rfl, hg1, hg2, h3⟩ := lenSetB_some h
    obtain ⟨g1, g2, g3⟩ := gl_of C hg1
    obtain ⟨g4, g5, g6⟩ := gl_of C hg2
    have hs := x.star _ _ h3
    refine PE.imp (pe_lenSetT C.calm (by have := C.room.un; omega) g1 (by rw [← C.hmg]; exact n.1) g4 (by rw [← C.hmg]; exact n.2.1) (x.snd C h3 n.2.2) (star_cons hs _)) fun σ H Qv ⟨r, hh, M, rl, re, k⟩ => ⟨r, hh, M, rl, re, one k fun d v h1 M1 H1 e1 r1 b1 k1 => ?_⟩
    unfold lenSetD at k1
    split at k1
    · rename_i l ew
      split at k1
      · rename_i m em
        split at k1
        · rename_i hl
          obtain ⟨p1, vs1, rfl, sq, rv1⟩ := (vw_ok r1 b1 ew).lst
          obtain ⟨ks, a1, a2, a3⟩ := tups_at C.hK em rv1
          subst a1 a2
          refine ⟨p1, ks, rfl, SqL.of sq, a3, by simpa using hl, ?_⟩
          exact k1.here r1 (.int _)
        · exact k1.elim
      · exact k1.elim
    · exact k1.elim
@[simp] theorem m_lenset {x : Xo} {r : Rho} {h : Hh} : (Xp.lenset x).sem r h = (x.sem r h).bind fun d h1 => lenSetD h1 (vw h1 d) := rfl
theorem nd_Xp_lenset {tb : Tb} {x : Xo} : (Xp.lenset x).need tb = (BtL tb "len" ∧ BtL tb "set" ∧ x.need tb) := rfl
end Pf

set_option Elab.async false
set_option linter.all false
set_option maxRecDepth 100000
set_option maxHeartbeats 1000000
/-! ## sorted(x), x a tuple -/
namespace Pf
open PySem L2 PySem.Spec PyProof.Rows PySem.Calls PySem.W
section
variable {prog : Program} {w : World} {A : Around} {E : Value → Shared → Prop} {s : Shared}
theorem got_tup {l : Addr} {vs : List Value} {Q : List Value → Shared → Prop} (hl : s.heap.IsTuple l vs.toArray) (h : Q vs { s with heap := (s.heap.push (seqObj "list" #[] 0)).update s.heap.objs.size (Obj.mapSeq (· ++ vs.toArray)) }) (hsz : vs.length ≤ sizeLine) : wpAny (model prog w) A (collect (.ref l)) Q E s := by
  obtain ⟨o, ho, hc, n, hd⟩ := id hl
  unfold collect
  refine wpAny_bind (wpAny_runValue (codeAny_builtin entry_proto_collect' ?_))
  show wpAny _ _ (do again (.builtin "list.__iadd__" ⟨[← newList [], .ref l], []⟩)) _ _ s
  refine wpAny_bind (wpAny_newList (wpAny_pure ⟨Code.quiet_builtin _ (by decide +kernel), codeAny_builtin entry_list_iadd' ?_⟩))
  show wpAny _ _ (Builtin.List.listExtendWith (.ref s.heap.objs.size) (.ref l) (.ref s.heap.objs.size)) _ _ { s with heap := s.heap.push (seqObj "list" #[] 0) }
  unfold Builtin.List.listExtendWith
  have ho' : (s.heap.push (seqObj "list" #[] 0)).get? l = some o := Heap.get?_push_of_some _ ho
  refine wpAny_bind (wpAny_typeOf (T := "tuple") ⟨o, ho', hc⟩ ?_)
  have ht : (Value.type "tuple" == Value.type "tuple") = true := by rfl
  rw [if_pos (by rw [ht]; simp)]
  refine wpAny_bind (listItems_at ho' hd ?_)
  refine wpAny_bind (listItems_at (xs := #[]) (n := 0) (Heap.get?_push_size _ rfl) rfl ?_)
  rw [if_neg (by simp)]
  refine wpAny_bind (listUpdate_at (xs := #[]) (n := 0) (Heap.get?_push_size _ rfl) rfl ?_ (Nat.zero_le _) (by show (#[] ++ vs.toArray).size ≤ sizeLine + 1; simp only [Array.size_append, List.size_toArray, List.length_nil]; omega))
  refine wpAny_pure ?_
  show wpAny (model prog w) A (do
      let o ← load s.heap.objs.size
      match o.data with
      | .seq xs _ => pure xs.toList
      | _ => unsupported "internal:collect") Q E { s with heap := (s.heap.push (seqObj "list" #[] 0)).update s.heap.objs.size (Obj.mapSeq (· ++ vs.toArray)) }
  refine wpAny_bind (wpAny_load (get?_update_seq (Heap.get?_push_size _ rfl) _) ?_)
  show wpAny _ _ (pure ((#[] : Array Value) ++ vs.toArray).toList) Q E _
  rw [show ((#[] : Array Value) ++ vs.toArray).toList = vs by simp]
  exact wpAny_pure h
theorem sorted_tupS {l : Addr} {vs : List Value} {kw : List (Str × Value)} {Q : Value → Shared → Prop} (hl : s.heap.IsTuple l vs.toArray) (hL : vs.length ≤ sizeLine) (ha1 : argsOk "sorted" ⟨[.ref l], kw⟩) (ha2 : ∀ x, argsOk "list.sort" ⟨[.ref x], kw⟩)
    (body : ∀ E' : Value → Shared → Prop, wpAny (model prog w) A.in1.in1 (Builtin.«list.sort» ⟨[.ref (s.heap.objs.size + 1)], kw⟩) (fun f s' => f = .done (.ret .none) ∧ Q (.ref (s.heap.objs.size + 1)) s') E' { s with heap := PySem.W.copyHeap s.heap vs }) :
    wpAny (model prog w) A (call (.builtin "sorted") [.ref l] kw) Q E s := by
  refine call_function_entry_kw kind_sorted plain_sorted entry_sorted ha1 ?_
  unfold Builtin.«sorted»
  refine wpAny_bind (m := checkCount "sorted" 1 1 _) (wpAny_pure ?_)
  refine wpAny_bind (got_tup hl ?_ hL)
  refine wpAny_bind (wpAny_newList ?_ hL)
  have hsz : ((s.heap.push (seqObj "list" #[] 0)).update s.heap.objs.size (Obj.mapSeq (· ++ vs.toArray))).objs.size = s.heap.objs.size + 1 := by
    rw [Heap.size_update, size_push']
  show wpAny _ _ _ _ _ { s with heap := PySem.W.copyHeap s.heap vs }
  rw [hsz]
  refine wpAny_bind (wpAny_holding (wpAny_call_entry_kw slot_list_sort ⟨_, PySem.W.copyHeap_at s.heap vs, rfl⟩ entry_list_sort ?body (ha2 _)))
  case body =>
    show wpAny (model prog w) A.in1.in1 (Builtin.«list.sort» ⟨[.ref (s.heap.objs.size + 1)], kw⟩) _ _ _
    refine wpAny_mono (body _) (fun f s' hf => ?_) fun _ _ e => e
    obtain ⟨rfl, hq⟩ := hf
    exact ⟨_, rfl, wpAny_pure ⟨_, rfl, hq⟩⟩
theorem sorted_tupD {β : Type} {vs : List Value} {bs : List β} {enc : β → PyData} {R : Value → β → Prop} {l : Addr} {Q : Value → Shared → Prop} (hl : s.heap.IsTuple l vs.toArray) (e : PySem.W.EachIs R vs bs) (er : PySem.W.EachIs (fun v b => ∃ as, Reads s.heap v (enc b) as) vs bs) (hal : PySem.W.AllAlike (bs.map enc)) (hk : PySem.W.Sortable (bs.map enc)) (hL : bs.length ≤ sizeLine)
    (hu : ∀ b, b ∈ bs → A.units + 2 + (enc b).depth < cLine) (h : ∀ out, out.length = bs.length → PySem.W.EachIs R out (bs.mergeSort (PySem.W.dataLe false enc)) → Q (.ref (s.heap.objs.size + 1)) { s with heap := sortedAll s.heap vs (List.toArray out) }) :
    wpAny (model prog w) A (call (.builtin "sorted") [.ref l]) Q E s := by
  have er' : PySem.W.EachIs (fun v b => ∃ as, Reads (PySem.W.sortingHeap (PySem.W.copyHeap s.heap vs) (s.heap.objs.size + 1) vs) v (enc b) as) vs bs := er.mono fun _ _ ⟨as, r⟩ => ⟨as, PyProof.Rows.Reads.keeps (fun _ _ => PySem.W.sorting_copy_old) r⟩
  have S := PySem.W.SortsAt.data (A := A.in1.in1) (prog := prog) (w := w) (s := { s with heap := PySem.W.sortingHeap (PySem.W.copyHeap s.heap vs) (s.heap.objs.size + 1) vs }) (PySem.W.each_map (R := fun v d => ∃ as, Reads (PySem.W.sortingHeap (PySem.W.copyHeap s.heap vs) (s.heap.objs.size + 1) vs) v d as) enc er') hal hk (PySem.W.bound_map hu)
  exact sorted_tupS hl (by rw [e.length]; exact hL) (args_sorted1 _) (fun _ => args_list_sort _) fun _ => PySem.W.list_sort_vals (s := { s with heap := PySem.W.copyHeap s.heap vs }) (PySem.W.copyHeap_at s.heap vs) S (by rw [e.length]; exact hL) ⟨rfl, h _ (by rw [PySem.W.sortVals_length false rfl]; exact e.length) (PySem.W.sortVals_data false e er' hal)⟩
end
/-- sorted: of a tuple -/
def srtE (ds : List D) : Option D := match ds with
  | [.tup l] => if sortOk l && decide (l.length ≤ line) then some (.lst (sortD l)) else none
  | _ => none
section
variable {X : Cx} {G : Gx}
theorem srt_D (hK : G.K = X.K) {kk : Nat} (hr : Room kk X.A) : CallR X (.builtin "sorted") (rCN G srtE) := by
  intro pins s σ H vs us Qv I rv ⟨ds, h, M, z, rl, rd, ez, k⟩
  obtain ⟨es, e1, w⟩ := Option.bind_eq_some_iff.mp ez
  have rd := vws_ok rl rd e1
  unfold srtE at w
  split at w
  · rename_i l
    split at w
    · rename_i hs
      simp only [Bool.and_eq_true, decide_eq_true_eq] at hs
      cases w
      obtain ⟨v, rfl, r1⟩ := rd.one
      obtain ⟨s1, s2, s3⟩ := sortOk_some hs.1
      obtain ⟨p, ws, rfl, r2, ⟨q1, q2⟩ | ⟨q1, q2⟩⟩ := r1.seq hK (show items (.tup l) = some l from rfl)
      · exact absurd rfl (q2 l)
      · obtain ⟨its, ri, pl, hz⟩ := I.tuple q1
        rw [Vals.ref1 rv]
        obtain ⟨e1, e2⟩ := each_of hK I s1 r2 ri
        refine sorted_tupD (by exact pl) e1 e2 s2 s3 (by rw [← line_eq]; exact hs.2) (fun c hc => by have h3 := (canLay_dep 58 c (s1 c hc)).2; have h4 := hr.un; omega) fun out ho eo => ?_
        obtain ⟨ep, he'⟩ := PyProof.Rows.sortedAll_at s.heap its out.toArray
        obtain ⟨ys, y1, y2⟩ := each_back eo
        have hlen : ys.length ≤ sizeLine := by rw [← y2.length, List.length_mergeSort, ← line_eq]; exact hs.2
        exact ⟨.ref _, upd H (s.heap.objs.size + 1) (.lst ys), I.laid (t' := s.toks) (fun _ _ => PyProof.Rows.sortedAll_old) (Nat.le_succ _) ⟨hlen, out, ep, y1, he'⟩, rfl, k _ _ _ rfl y2 (I.hok.fresh (Nat.le_succ _))⟩
    · cases w
  · cases w
end
theorem srtE_lst {ds : List D} {z : D} (h : srtE ds = some z) : ∃ l, z = .lst l := by
  unfold srtE at h
  split at h
  · split at h
    · cases h; exact ⟨_, rfl⟩
    · cases h
  · cases h
def Xn.srt (xs : List Xo) : Xn where
  sem r h := (semB xs r h).bind fun ds h1 => ofO (onL srtE h1 ds) h1
  ok := nameB "sorted" (okB xs)
  need t := BtL t "sorted" ∧ needB xs t
  star _ a h := by obtain ⟨p, e, es, q, rfl, _⟩ := nameB_some h; rfl
  snd {X G ck k Wx a} C h n := by
    obtain ⟨p, e, es, q, rfl, hg, ho⟩ := nameB_some h
    refine PE.imp (pe_bi C (.inl ⟨_, rfl⟩) (srt_D C.hK C.room) bt_sorted hg n.1 ho n.2) fun σ H Qv ⟨r, hh, M, rl, re, k⟩ => ⟨r, hh, M, rl, re, one k fun d v h1 M1 H1 e1 r1 b1 k1 => ?_⟩
    cases q : onL srtE h1 d with
    | none => rw [q] at k1; exact k1.elim
    | some z =>
      rw [q] at k1
      refine ⟨d, h1, M1, z, r1, b1, q, fun xs us p hz hv hp => ?_⟩
      subst hz
      exact kn_list C.gk e1 r1 hv k1 p hp
@[simp] theorem m_srt {xs : List Xo} {r : Rho} {h : Hh} : (Xn.srt xs).sem r h = (semB xs r h).bind fun ds h1 => ofO (onL srtE h1 ds) h1 := rfl
theorem nd_Xn_srt {tb : Tb} {xs : List Xo} : (Xn.srt xs).need tb = (BtL tb "sorted" ∧ needB xs tb) := rfl
end Pf

set_option Elab.async false
set_option linter.all false
set_option maxRecDepth 100000
set_option maxHeartbeats 1000000
/-! ## C(*x), C(e, .., *x): a thing made of what is in x -/
namespace Pf
open PySem L2 PySem.Spec PyProof.Rows
def star1B (f : Str) (x : Xo) (ck : Ck) (a : Expr) : Bool := match a with
  | .Call (.Name y _) [.Starred e _] [] _ => y == f && globB ck y && x.ok ck e
  | _ => false
theorem star1B_some {f : Str} {x : Xo} {ck : Ck} {a : Expr} (h : star1B f x ck a = true) : ∃ p e q r, a = .Call (.Name f p) [.Starred e q] [] r ∧ globB ck f = true ∧ x.ok ck e = true := by
  unfold star1B at h
  split at h
  · simp only [Bool.and_eq_true, beq_iff_eq] at h
    obtain ⟨⟨rfl, h1⟩, h2⟩ := h
    exact ⟨_, _, _, _, rfl, h1, h2⟩
  · cases h
def onS (Fm : Fsem) (h : Hh) (d : D) : Res D := match (vw h d).bind items with
  | some ds => Fm ds h
  | none => .no
theorem pe_mkS1 {X : Cx} {G : Gx} {ck : Ck} {k : Nat} {Wx : WX} {c : Nat} {F Fm : Fsem} {y : Xo} {a : Expr} (C : Cok X G ck k Wx) (h : star1B (nmC c) y ck a = true) (t : MkL (tbOf X G k) c F) (n : y.need (tbOf X G k))
    (lf : ∀ {Ca x dx : Addr} {ds : List D} {h : Hh} {M : Mp} {H : Hp} {vs : List V} {σ : L2.St} {Qv : VK}, G.mg (nmC c) = some (.ref Ca) → RL G h M H → RVs G M H ds vs → KG (RV G) G Wx σ M H Qv (Fm ds h) → H x = none → H dx = none → dx ≠ x → lift G F (.ref x :: vs) (newI H Ca x dx) (fun v H2 => v = .non ∧ Qv (.ref x) H2) (fun cls d H' => Wx cls d σ H')) :
    PE X a (tG (RV G) G Wx fun r h => (y.sem r h).bind fun d h1 => onS Fm h1 d) := by
  obtain ⟨p, e, sp_, q, rfl, hg, ho⟩ := star1B_some h
  obtain ⟨g1, g2, g3⟩ := gl_of C hg
  have t' := t
  obtain ⟨Ca, g, fd, ps, hm, mk, hb, Fo⟩ := t'
  dsimp only at hm mk
  have hm2 : X.mg (nmC c) = some (.ref Ca) := by rw [← C.hmg]; exact hm
  have kp : PySem.W.keepIn X.K (.ref Ca) = true := by rw [← C.hK]; exact mk.kp
  refine ⟨fun pins s σ H Qv I ⟨r, hh, M, rl, re, kk⟩ => wpAny_Call_Name_kw (ld_glob I g1 hm2 ?_ g2)⟩
  refine PySem.W.callWith_S (h₀ := X.base) I.ok.mod.kin kp (thn ((y.snd C ho n).run pins s σ H (fun v H1 => ∃ d ds h1 M1, RL G h1 M1 H1 ∧ RB G M1 H1 d v ∧ (vw h1 d).bind items = some ds ∧ KG (RV G) G Wx σ M1 H1 Qv (Fm ds h1)) I ⟨r, hh, M, rl, re, one kk fun d v h1 M1 H1 e1 r1 b1 k1 => ?_⟩) fun v s1 ⟨x, H1, I1, ry, d, ds, h1, M1, r1, b1, ed, k1⟩ => ?_) rfl
  · unfold onS at k1
    split at k1
    · rename_i ds ed
      exact ⟨d, ds, h1, M1, r1, b1, ed, k1⟩
    · exact k1.elim
  · obtain ⟨d', e1, e2⟩ := Option.bind_eq_some_iff.mp ed
    obtain ⟨ad, vs, rfl, rv, hx⟩ := (vw_ok r1 b1 e1).seq C.hK e2
    obtain rfl : v = Value.ref ad := ry
    have hx' : SqT X.K H1 ad vs ∨ SqL X.K H1 ad vs := hx.elim (fun z => .inr z.1) (fun z => .inl z.1)
    exact StX.star_any I1 hx' fun us s2 I2 rvs => ⟨I2.kIn, make_D C t hm2 I2 rvs fun x dx e1 e2 e3 => lf hm r1 rv k1 e1 e2 e3⟩
/-- C(*x), written no more -/
def Xp.mkF1 (c : Nat) (F : Fsem) (x : Xo) : Xp where
  sem r h := (x.sem r h).bind fun d h1 => onS (Pf.mkF c F) h1 d
  ok := star1B (nmC c) x
  need t := MkL t c F ∧ x.need t
  star _ a h := by obtain ⟨p, e, q, r, rfl, _⟩ := star1B_some h; rfl
  snd C h n := pe_mkS1 C h n.1 n.2 fun hm rl rd k e1 e2 e3 => lift_mkF C.gk hm rl rd k e1 e2 e3
@[simp] theorem m_mkF1 {c : Nat} {F : Fsem} {x : Xo} {r : Rho} {h : Hh} : (Xp.mkF1 c F x).sem r h = (x.sem r h).bind fun d h1 => onS (Pf.mkF c F) h1 d := rfl
theorem nd_Xp_mkF1 {tb : Tb} {c : Nat} {F : Fsem} {x : Xo} : (Xp.mkF1 c F x).need tb = (MkL tb c F ∧ x.need tb) := rfl
def star3B (f : Str) (x y : Xp) (z : Xo) (ck : Ck) (a : Expr) : Bool := match a with
  | .Call (.Name g _) [a, b, .Starred e _] [] _ => g == f && globB ck g && x.ok ck a && y.ok ck b && z.ok ck e
  | _ => false
theorem star3B_some {f : Str} {x y : Xp} {z : Xo} {ck : Ck} {a : Expr} (h : star3B f x y z ck a = true) : ∃ p a1 b1 e q r, a = .Call (.Name f p) [a1, b1, .Starred e q] [] r ∧ globB ck f = true ∧ x.ok ck a1 = true ∧ y.ok ck b1 = true ∧ z.ok ck e = true := by
  unfold star3B at h
  split at h
  · simp only [Bool.and_eq_true, beq_iff_eq] at h
    obtain ⟨⟨⟨⟨rfl, h1⟩, h2⟩, h3⟩, h4⟩ := h
    exact ⟨_, _, _, _, _, _, rfl, h1, h2, h3, h4⟩
  · cases h
theorem pe_mkS3 {X : Cx} {G : Gx} {ck : Ck} {k : Nat} {Wx : WX} {c : Nat} {F Fm : Fsem} {x y : Xp} {z : Xo} {a : Expr} (C : Cok X G ck k Wx) (h : star3B (nmC c) x y z ck a = true) (t : MkL (tbOf X G k) c F) (n : needS [.inl x, .inl y, .inr z] (tbOf X G k))
    (lf : ∀ {Ca x dx : Addr} {ds : List D} {h : Hh} {M : Mp} {H : Hp} {vs : List V} {σ : L2.St} {Qv : VK}, G.mg (nmC c) = some (.ref Ca) → RL G h M H → RVs G M H ds vs → KG (RV G) G Wx σ M H Qv (Fm ds h) → H x = none → H dx = none → dx ≠ x → lift G F (.ref x :: vs) (newI H Ca x dx) (fun v H2 => v = .non ∧ Qv (.ref x) H2) (fun cls d H' => Wx cls d σ H')) :
    PE X a (tG (RV G) G Wx fun r h => (semS [.inl x, .inl y, .inr z] r h).bind fun ds h1 => Fm ds h1) := by
  obtain ⟨p, a1, b1, e, sp_, q, rfl, hg, ha, hb', he⟩ := star3B_some h
  obtain ⟨g1, g2, g3⟩ := gl_of C hg
  have t' := t
  obtain ⟨Ca, g, fd, ps, hm, mk, hb, Fo⟩ := t'
  dsimp only at hm mk
  have hm2 : X.mg (nmC c) = some (.ref Ca) := by rw [← C.hmg]; exact hm
  have kp : PySem.W.keepIn X.K (.ref Ca) = true := by rw [← C.hK]; exact mk.kp
  have ho : okS [.inl x, .inl y, .inr z] ck [a1, b1, .Starred e sp_] = true := by simp [okS, ha, hb', he]
  have ns1 := x.star _ _ ha
  have ns2 := y.star _ _ hb'
  refine ⟨fun pins s σ H Qv I ⟨r, hh, M, rl, re, kk⟩ => wpAny_Call_Name_kw (ld_glob I g1 hm2 ?_ g2)⟩
  refine PySem.W.callWith_S2 (h₀ := X.base) I.ok.mod.kin kp (thn ((sndS _ C ho n).run q pins s σ H (fun vs H1 => ∃ ds h1 M1, RL G h1 M1 H1 ∧ RVs G M1 H1 ds vs ∧ KG (RV G) G Wx σ M1 H1 Qv (Fm ds h1)) I ⟨r, hh, M, rl, re, one kk fun d v h1 M1 H1 e1 r1 b1 k1 => ⟨d, h1, M1, r1, b1, k1⟩⟩) fun us s1 ⟨vs, H1, I1, rvs, ds, h1, M1, r1, rd, w1⟩ => ⟨I1.kIn, make_D C t hm2 I1 rvs fun x dx e1 e2 e3 => lf hm r1 rd w1 e1 e2 e3⟩) (star_cons ns1 _) ?_
  rw [star_cons ns2]; rfl
/-- C(x, y, *z), written no more -/
def Xp.mkF3 (c : Nat) (F : Fsem) (x y : Xp) (z : Xo) : Xp where
  sem r h := (semS [.inl x, .inl y, .inr z] r h).bind fun ds h1 => Pf.mkF c F ds h1
  ok := star3B (nmC c) x y z
  need t := MkL t c F ∧ needS [.inl x, .inl y, .inr z] t
  star _ a h := by obtain ⟨p, a1, b1, e, q, r, rfl, _⟩ := star3B_some h; rfl
  snd C h n := pe_mkS3 C h n.1 n.2 fun hm rl rd k e1 e2 e3 => lift_mkF C.gk hm rl rd k e1 e2 e3
@[simp] theorem m_mkF3 {c : Nat} {F : Fsem} {x y : Xp} {z : Xo} {r : Rho} {h : Hh} : (Xp.mkF3 c F x y z).sem r h = (semS [.inl x, .inl y, .inr z] r h).bind fun ds h1 => Pf.mkF c F ds h1 := rfl
theorem nd_Xp_mkF3 {tb : Tb} {c : Nat} {F : Fsem} {x y : Xp} {z : Xo} : (Xp.mkF3 c F x y z).need tb = (MkL tb c F ∧ needS [.inl x, .inl y, .inr z] tb) := rfl
end Pf

set_option Elab.async false
set_option linter.all false
set_option maxRecDepth 100000
set_option maxHeartbeats 1000000
/-! ## Walks of dicts with nested keys: for k in d, list(d), sorted(d); x.pop() -/
namespace Pf
open PySem L2 PySem.Spec PyProof.Rows PySem.Calls PySem.W
/-- the keys, turn by turn -/
def Itn (d : Addr) (es : List DictEntry) (ep : Nat) (ks : List NestedKey) : It :=
  ⟨fun i H => H d = some (DicO d es ep ks) ∧ i < es.length, fun i H x H' => H' = H ∧ ∃ e q, es[i]? = some e ∧ e.key = .ref q ∧ x = .ref q, fun i H => H d = some (DicO d es ep ks) ∧ es.length ≤ i⟩
theorem turn_nk {P : Program} {w : World} {K : PySem.W.Frag} {tg : Expr} {d : Addr} {es : List DictEntry} {ep : Nat} {ks : List NestedKey} (hk : ∀ (i : Nat) e, es[i]? = some e → ∃ q, e.key = .ref q) (it : Addr) : Turn P w K tg (Itn d es ep ks) [it] it (fun i h => h.IsKeyIter it d i es.length ep) where
  mem := by simp
  obj := fun i h st b hb => by
    have e : b = it := by simpa using hb
    subst e
    obtain ⟨oi, e, c, dd⟩ := st
    exact ⟨oi, e, fun v z => by rw [dd] at z; cases z⟩
  keep := fun i h h' st k => st.at fun oi e => k it (by simp) oi e
  item := by
    intro X hP hw hK hc i pins s σ H E I hf st hg
    subst hP hw hK
    obtain ⟨hd, hi⟩ := hg
    obtain ⟨f0, f1, f2, f3, f4, f5⟩ := hf it (by simp)
    obtain ⟨⟨hn, o, ho, hx, hdt⟩, _, _⟩ := I.hok d _ hd
    obtain ⟨q, hq⟩ := hk i _ (List.getElem?_eq_getElem hi)
    refine next_key_item (es := es.toArray) (en := es[i]) st ho hdt (by simp) (by simp [hi]) fun h' st' sb => ?_
    have I1 : Inv X pins σ H { s with heap := h' } := I.turned (t' := s.toks) (fun b ob hb e => (sb.2 b hb).trans e) f0 f1 f3 f4 f5
    obtain ⟨oi, e, c, dd⟩ := id st'
    exact ⟨_, rfl, go_of (s := { s with heap := h' }) e c dd (by decide) ⟨.ref q, H, I1, hq, ⟨rfl, _, q, List.getElem?_eq_getElem hi, hq, rfl⟩, st', fun b hb => (hf b hb).1⟩⟩
  done := by
    intro X hP hw hK hc i pins s σ H E I hf st hg
    subst hP hw hK
    obtain ⟨hd, hi⟩ := hg
    obtain ⟨f0, f1, f2, f3, f4, f5⟩ := hf it (by simp)
    obtain ⟨⟨hn, o, ho, hx, hdt⟩, _, _⟩ := I.hok d _ hd
    exact next_key_end (es := es.toArray) (I.ok.hd hc) st ho hdt (by simp) hi fun h' eb => ⟨rfl, I.turned (t' := s.toks) (fun b ob hb e => eb b ob hb e) f0 f1 f3 f4 f5⟩
  self := fun A i s Q E st h => by
    refine wpAny_pyIter_slot st.typeIs F.slot_dict_keyiterator_iter (wpAny_call_entry F.slot_dict_keyiterator_iter st.typeIs F.entry_dict_keyiterator_iter ?_ (F.args_dict_keyiterator_iter_1 _))
    show wpAny _ _ (ret (.ref it)) _ _ s
    exact wpAny_pure ⟨_, rfl, "dict_keyiterator", _, st.typeIs, F.slot_dict_keyiterator_next.lookup, h⟩
section
variable {X : Cx} {G : Gx} {M : Mp} {H : Hp} {σ : L2.St} {pins : List (Addr × Obj)} {s : Shared}
/-- the keys as values -/
theorem RPs.keysV : ∀ {l : List (D × D)} {es : List DictEntry}, RPs G M H l es → ∃ zs : List Addr, es.map (·.key) = zs.map Value.ref ∧ RVs G M H (l.map (·.1)) (zs.map V.ref)
  | _, _, .nil => ⟨[], rfl, .nil⟩
  | _, _, .cons rk q rd q2 g t => by
    obtain ⟨zs, h1, h2⟩ := RPs.keysV t
    obtain ⟨a, rfl⟩ := isTp_ref (by have := g.2; unfold nK at this; rw [Bool.and_eq_true] at this; exact this.1) rk
    exact ⟨a :: zs, by rw [List.map_cons, List.map_cons, h1]; exact congrArg (· :: _) q, .cons rk h2⟩
theorem RPs.length {l : List (D × D)} {es : List DictEntry} (r : RPs G M H l es) : es.length = l.length := by
  obtain ⟨zs, h1, h2⟩ := r.keysV
  have e1 := congrArg List.length h1
  have e2 := h2.length
  simp only [List.length_map] at e1 e2
  omega
theorem vals_refs : ∀ (zs : List Addr), Vals (zs.map V.ref) (zs.map Value.ref)
  | [] => .nil
  | z :: zs => .cons rfl (vals_refs zs)
theorem it_nk (gk : Gk G) {d : Addr} {l : List (D × D)} {es : List DictEntry} {ep : Nat} {ks : List NestedKey} (hf : M.F d) (hd : H d = some (DicO d es ep ks)) (rp : RPs G M H l es) : ItOk G M H (l.map (·.1)) (Itn d es ep ks) := by
  intro h2 M2 H2 e r2
  have hd2 := (e.k d hf).2 _ hd
  have rp2 := rp.keep gk e
  have hl := rp2.length
  refine ⟨fun i hi => ⟨⟨hd2, by rw [hl]; simpa using hi⟩, fun y H3 hy => ?_⟩, fun i hi => ⟨hd2, by rw [hl]; simpa using Nat.le_of_eq hi⟩⟩
  obtain ⟨rfl, en, q, h1, h2, rfl⟩ := hy
  obtain ⟨zs, e1, e2⟩ := rp2.keysV
  have e3 : (es.map (·.key))[i]? = some (.ref q) := by rw [List.getElem?_map, h1, Option.map_some, h2]
  rw [e1, List.getElem?_map] at e3
  obtain ⟨z, e4, e5⟩ := Option.map_eq_some_iff.mp e3
  cases e5
  obtain ⟨dd, e6, r6⟩ := e2.getV (v := V.ref q) (by rw [List.getElem?_map, e4]; rfl)
  exact ⟨dd, M2, e6, Ext.refl, r2, r6⟩
theorem iter_nk {tg : Expr} {R : It → Hp → Prop} {d : Addr} {es : List DictEntry} {ep : Nat} {ks : List NestedKey} (I : Inv X pins σ H s) (hm : (d == sysModules) = false) (hd : H d = some (DicO d es ep ks)) (hk : ∀ (i : Nat) e, es[i]? = some e → ∃ q, e.key = .ref q) (q : R (Itn d es ep ks) H) : wpAny (model X.prog X.w) X.A (pyIter (.ref d)) (PIE X pins σ tg R) X.xe s := by
  obtain ⟨⟨hn, o, ho, hx, hdt⟩, _, _⟩ := I.hok d _ hd
  refine wpAny_pyIter_dict_raw hm ⟨o, ho, hx, hdt⟩ ?_
  refine ⟨s.heap.objs.size, [s.heap.objs.size], _, _, H, rfl, I.kept (t' := s.toks) fun b o e => Heap.get?_push_of_some _ e, turn_nk hk _, ⟨_, Heap.get?_push_size _ rfl, rfl, by simp⟩, fun b hb => ?_, q⟩
  have e : b = s.heap.objs.size := by simpa using hb
  subst e
  exact I.fpOk (Nat.le_refl _) (I.hok.fresh (Nat.le_refl _))
theorem keys_refs {l : List (D × D)} {es : List DictEntry} (r : RPs G M H l es) : ∀ (i : Nat) e, es[i]? = some e → ∃ q, e.key = .ref q := fun i e h => by
  obtain ⟨zs, h1, h2⟩ := r.keysV
  have e3 : (es.map (·.key))[i]? = some e.key := by rw [List.getElem?_map, h]; rfl
  rw [h1, List.getElem?_map] at e3
  obtain ⟨z, _, e5⟩ := Option.map_eq_some_iff.mp e3
  exact ⟨z, e5.symm⟩
end
def nkE : D → Option (List D)
  | .dcn l => some (l.map (·.1))
  | _ => none
/-- for k in d -/
def Ib.nkeys (x : Xp) : Ib where
  sem r h := (x.sem r h).bind fun d h1 => ofO (nkE d) h1
  ok ck a := x.ok ck a && notSet a
  need := x.need
  tgt _ := true
  set _ _ h := (Bool.and_eq_true_iff.mp h).2
  snd {X G ck k Wx tg a} C ht h n := by
    have h := (Bool.and_eq_true_iff.mp h).1
    refine ⟨fun pins s σ H R I ⟨r, hh, M, rl, re, k⟩ => ?_⟩
    refine thn ((x.snd C h n).run pins s σ H (fun v H1 => ∃ d h1 M1, Ext M H M1 H1 ∧ RL G h1 M1 H1 ∧ RV G M1 H1 d v ∧ KI G Wx σ M1 H1 R (ofO (nkE d) h1)) I ⟨r, hh, M, rl, re, oneI k fun d v h1 M1 H1 e1 r1 b1 k1 => ⟨d, h1, M1, e1, r1, b1, k1⟩⟩) fun v s1 ⟨y, H1, I1, ry, d, h1, M1, e1, r1, rv, k1⟩ => ?_
    cases rv <;> simp only [nkE, ofO_some, ofO_none] at k1 <;> first | exact k1.elim | cases ry
    rename_i hf ro _
    cases ro with
    | dcn hd hm hn rp => exact iter_nk I1 hm hd (keys_refs rp) (k1 _ M1 H1 Ext.refl r1 (it_nk C.gk hf hd rp))
/-! ### list(d), sorted(d) -/
def nlE (ds : List D) : Option D := match ds with
  | [d] => (nkE d).map D.lst
  | _ => none
def nsE (ds : List D) : Option D := match ds with
  | [d] => (nkE d).bind fun l => if sortOk l && decide (l.length ≤ line) then some (.lst (sortD l)) else none
  | _ => none
theorem nkE_some {d : D} {l : List D} (h : nkE d = some l) : ∃ kvs, d = .dcn kvs ∧ l = kvs.map (·.1) := by
  cases d <;> simp [nkE] at h
  exact ⟨_, rfl, h.symm⟩
section
variable {X : Cx} {G : Gx} {M : Mp} {H : Hp} {σ : L2.St} {pins : List (Addr × Obj)} {s : Shared}
/-- the object of such a dict -/
theorem nk_open {h : Hh} {kvs : List (D × D)} {v : V} (r : Vd G M H (.dcn kvs) v) : ∃ d es ep, v = .ref d ∧ (d == sysModules) = false ∧ kvs.length ≤ sizeLine ∧ RPs G M H kvs es ∧ ∀ {X : Cx} {pins : List (Addr × Obj)} {σ : L2.St} {s : Shared}, Inv X pins σ H s → s.heap.DictRaw d es.toArray ep := by
  obtain ⟨d, rfl, ro⟩ := r.thing trivial
  cases ro with
  | dcn hd hm hn rp =>
    rename_i es ep
    refine ⟨d, es, ep, rfl, hm, hn, rp, fun {X pins σ s} I => ?_⟩
    obtain ⟨⟨_, o, ho, hx, hdt⟩, _, _⟩ := I.hok d _ hd
    exact ⟨o, ho, hx, hdt⟩
theorem acc_keys {es : List DictEntry} {acc : Array Value} (h : ItemsOf (fun i v => ∃ hi : i < es.toArray.size, v = es.toArray[i].key) acc es.toArray.size) : acc.toList = es.map (·.key) := by
  obtain ⟨h1, h2⟩ := h
  apply List.ext_getElem?
  intro i
  rw [Array.getElem?_toList, List.getElem?_map]
  cases e : acc[i]? with
  | none =>
    have : acc.size ≤ i := by simpa using e
    have h3 : es.length ≤ i := by rw [h1] at this; simpa using this
    rw [List.getElem?_eq_none h3]; rfl
  | some v =>
    obtain ⟨hi, e2⟩ := h2 i v e
    have hi' : i < es.length := by simpa using hi
    rw [List.getElem?_eq_getElem hi', e2]
    simp
theorem nl_D (hc : X.calm = true) : CallR X (.type "list") (rCN G nlE) := by
  intro pins s σ H vs us Qv I rv ⟨ds, h, M, z, rl, rd, ez, k⟩
  obtain ⟨es, e1, w⟩ := Option.bind_eq_some_iff.mp ez
  have rd := vws_ok rl rd e1
  unfold nlE at w
  split at w
  · obtain ⟨l, e2, w⟩ := Option.map_eq_some_iff.mp w
    obtain ⟨kvs, rfl, rfl⟩ := nkE_some e2
    obtain ⟨v, rfl, r1⟩ := rd.one
    obtain ⟨d, es, ep, rfl, hm, hn, rp, hr⟩ := nk_open (h := h) r1
    rw [Vals.ref1 rv]
    obtain ⟨zs, hz1, hz2⟩ := rp.keysV
    refine kdl_call (KdlSrc.rawDict (es := es.toArray) (ep := ep) hm) (I.ok.hd hc) (hr I) (by rw [List.size_toArray, rp.length]; exact hn) fun h' tk acc c hk hD hacc => ?_
    have e3 := (acc_keys hacc).trans hz1
    have hlen : (zs.map V.ref).length ≤ sizeLine := by rw [← hz2.length, List.length_map]; exact hn
    have ea : acc = (zs.map Value.ref).toArray := by rw [← e3]
    subst ea
    exact ⟨.ref _, upd H s.heap.objs.size (.lst (zs.map V.ref)), I.laid (t' := tk) hk (Nat.le_refl _) ⟨hlen, zs.map Value.ref, c, vals_refs zs, by exact hD⟩, rfl, k _ _ _ w.symm hz2 (I.hok.fresh (Nat.le_refl _))⟩
  · cases w
theorem ns_D (hK : G.K = X.K) (hc : X.calm = true) {kk : Nat} (hr : Room kk X.A) : CallR X (.builtin "sorted") (rCN G nsE) := by
  intro pins s σ H vs us Qv I rv ⟨ds, h, M, z, rl, rd, ez, k⟩
  obtain ⟨es, e1, w⟩ := Option.bind_eq_some_iff.mp ez
  have rd := vws_ok rl rd e1
  unfold nsE at w
  split at w
  · obtain ⟨l, e2, w⟩ := Option.bind_eq_some_iff.mp w
    split at w
    · rename_i hs
      simp only [Bool.and_eq_true, decide_eq_true_eq] at hs
      cases w
      obtain ⟨kvs, rfl, rfl⟩ := nkE_some e2
      obtain ⟨v, rfl, r1⟩ := rd.one
      obtain ⟨d, es, ep, rfl, hm, hn, rp, hraw⟩ := nk_open (h := h) r1
      rw [Vals.ref1 rv]
      obtain ⟨zs, hz1, hz2⟩ := rp.keysV
      obtain ⟨s1, s2, s3⟩ := sortOk_some hs.1
      obtain ⟨f1, f2⟩ := each_of hK I s1 hz2 (vals_refs zs)
      refine call_function_entry kind_sorted plain_sorted entry_sorted (args_sorted1 _) ?_
      unfold Builtin.«sorted»
      refine wpAny_bind (m := checkCount "sorted" 1 1 _) (wpAny_pure ?_)
      refine wpAny_bind (kdu_collect (A := X.A.in1) (KdlSrc.rawDict (es := es.toArray) (ep := ep) hm) (I.ok.hd hc) (hraw I) (by rw [List.size_toArray, rp.length]; exact hn) fun h' tk acc hk hacc => ?_)
      have e3 := (acc_keys hacc).trans hz1
      rw [e3]
      have hzl : (zs.map Value.ref).length ≤ sizeLine := by have := hz2.length; simp only [List.length_map] at this ⊢; rw [← this]; exact hn
      refine wpAny_bind (wpAny_newList ?_ hzl)
      have J : Inv X pins σ H { s with heap := h', toks := tk } := I.kept hk
      obtain ⟨g1, g2⟩ := each_of hK J s1 hz2 (vals_refs zs)
      have at1 : (h'.push (seqObj "list" (zs.map Value.ref).toArray 0)).get? h'.objs.size = some (seqObj "list" (zs.map Value.ref).toArray 0) := Heap.get?_push_size _ rfl
      have ne : ∀ b o, h'.get? b = some o → b ≠ h'.objs.size := fun b o q => Nat.ne_of_lt (Heap.lt_size q)
      have g3 : PySem.W.EachIs (fun v c => ∃ as, Reads (PySem.W.sortingHeap (h'.push (seqObj "list" (zs.map Value.ref).toArray 0)) h'.objs.size (zs.map Value.ref)) v (pd c) as) (zs.map Value.ref) (kvs.map (·.1)) :=
        g2.mono fun _ _ ⟨as, r⟩ => ⟨as, PyProof.Rows.Reads.keeps (fun b o q => sortingHeap_old (ne b o q) (Heap.get?_push_of_some _ q)) r⟩
      have S := PySem.W.SortsAt.data (A := X.A.in1.in1) (prog := X.prog) (w := X.w) (s := { s with heap := PySem.W.sortingHeap (h'.push (seqObj "list" (zs.map Value.ref).toArray 0)) h'.objs.size (zs.map Value.ref), toks := tk }) (PySem.W.each_map (R := fun v d => ∃ as, Reads (PySem.W.sortingHeap (h'.push (seqObj "list" (zs.map Value.ref).toArray 0)) h'.objs.size (zs.map Value.ref)) v d as) pd g3) s2 s3 (PySem.W.bound_map fun c hc => by have h3 := (canLay_dep 58 c (s1 c hc)).2; have h4 := hr.un; simp only [Around.in1]; omega)
      refine wpAny_bind (wpAny_holding (wpAny_call_entry_kw slot_list_sort ⟨_, at1, rfl⟩ entry_list_sort (PySem.W.list_sort_vals (s := { s with heap := h'.push (seqObj "list" (zs.map Value.ref).toArray 0), toks := tk }) at1 S hzl ⟨_, rfl, wpAny_pure ⟨_, rfl, ?_⟩⟩) (args_list_sort _)))
      have eo := PySem.W.sortVals_data (R := fun v c => ∃ x, RelV x v ∧ RV G M H c x) (enc := pd) false (f1) g3 s2
      obtain ⟨ep2, he'⟩ := PyProof.Rows.sortedHeap_at (vs := zs.map Value.ref) (out := (PySem.W.sortVals _ false (zs.map Value.ref) (zs.map Value.ref)).toArray) at1
      obtain ⟨ys, y1, y2⟩ := each_back eo
      have hlen : ys.length ≤ sizeLine := by rw [← y2.length, List.length_mergeSort, ← line_eq]; exact hs.2
      exact ⟨.ref _, upd H h'.objs.size (.lst ys), J.laid (t' := tk) (fun b o q => (PyProof.Rows.sortedHeap_old (ne b o q) (by rw [Heap.size_push]; exact Nat.lt_succ_of_lt (Heap.lt_size q))).trans (Heap.get?_push_of_some _ q)) (Nat.le_refl _) ⟨hlen, _, ep2, y1, he'⟩, rfl, k _ _ _ rfl y2 (J.hok.fresh (Nat.le_refl _))⟩
    · cases w
  · cases w
end
theorem nlE_lst {ds : List D} {z : D} (h : nlE ds = some z) : ∃ l, z = .lst l := by
  unfold nlE at h
  split at h
  · obtain ⟨l, _, w⟩ := Option.map_eq_some_iff.mp h
    exact ⟨l, w.symm⟩
  · cases h
theorem nsE_lst {ds : List D} {z : D} (h : nsE ds = some z) : ∃ l, z = .lst l := by
  unfold nsE at h
  split at h
  · obtain ⟨l, _, w⟩ := Option.bind_eq_some_iff.mp h
    split at w
    · cases w; exact ⟨_, rfl⟩
    · cases w
  · cases h
/-- list(d) -/
def Xn.nlist (xs : List Xo) : Xn where
  sem r h := (semB xs r h).bind fun ds h1 => ofO (onL nlE h1 ds) h1
  ok := nameB "list" (okB xs)
  need t := BtL t "list" ∧ needB xs t
  star _ a h := by obtain ⟨p, e, es, q, rfl, _⟩ := nameB_some h; rfl
  snd {X G ck k Wx a} C h n := by
    obtain ⟨p, e, es, q, rfl, hg, ho⟩ := nameB_some h
    refine PE.imp (pe_bi C (.inr ⟨_, rfl⟩) (nl_D (G := G) C.calm) bt_list hg n.1 ho n.2) fun σ H Qv ⟨r, hh, M, rl, re, k⟩ => ⟨r, hh, M, rl, re, one k fun d v h1 M1 H1 e1 r1 b1 k1 => ?_⟩
    cases q : onL nlE h1 d with
    | none => rw [q] at k1; exact k1.elim
    | some z =>
      rw [q] at k1
      refine ⟨d, h1, M1, z, r1, b1, q, fun xs us p hz hv hp => ?_⟩
      subst hz
      exact kn_list C.gk e1 r1 hv k1 p hp
/-- sorted(d) -/
def Xn.nsort (xs : List Xo) : Xn where
  sem r h := (semB xs r h).bind fun ds h1 => ofO (onL nsE h1 ds) h1
  ok := nameB "sorted" (okB xs)
  need t := BtL t "sorted" ∧ needB xs t
  star _ a h := by obtain ⟨p, e, es, q, rfl, _⟩ := nameB_some h; rfl
  snd {X G ck k Wx a} C h n := by
    obtain ⟨p, e, es, q, rfl, hg, ho⟩ := nameB_some h
    refine PE.imp (pe_bi C (.inl ⟨_, rfl⟩) (ns_D C.hK C.calm C.room) bt_sorted hg n.1 ho n.2) fun σ H Qv ⟨r, hh, M, rl, re, k⟩ => ⟨r, hh, M, rl, re, one k fun d v h1 M1 H1 e1 r1 b1 k1 => ?_⟩
    cases q : onL nsE h1 d with
    | none => rw [q] at k1; exact k1.elim
    | some z =>
      rw [q] at k1
      refine ⟨d, h1, M1, z, r1, b1, q, fun xs us p hz hv hp => ?_⟩
      subst hz
      exact kn_list C.gk e1 r1 hv k1 p hp
/-! ### x = l.pop() -/
def popX (j : Nat) (ck : Ck) (e : Expr) : Bool := match e with
  | .Call (.Attribute y n ap) [] [] p => n == "pop" && varB j ck y && plainBase y && (ap.endLine == p.line)
  | _ => false
theorem popX_some {j : Nat} {ck : Ck} {e : Expr} (h : popX j ck e = true) : ∃ y ap p, e = .Call (.Attribute y "pop" ap) [] [] p ∧ varB j ck y = true ∧ plainBase y = true ∧ (ap.endLine == p.line) = true := by
  unfold popX at h
  split at h
  · simp only [Bool.and_eq_true, beq_iff_eq] at h
    obtain ⟨⟨⟨rfl, h1⟩, h2⟩, h3⟩ := h
    exact ⟨_, _, _, rfl, h1, h2, by simpa using h3⟩
  · cases h
theorem rvs_last {G : Gx} {M : Mp} {H : Hp} : ∀ {l : List D} {xs : List V} {d : D}, RVs G M H l xs → l.getLast? = some d → ∃ v, xs[xs.length - 1]? = some v ∧ RV G M H d v ∧ RVs G M H l.dropLast xs.dropLast
  | _, _, d, .nil, h => by simp at h
  | _, _, d, .cons r .nil, h => by
    simp at h; subst h
    exact ⟨_, rfl, r, .nil⟩
  | _, _, d, .cons r (.cons r2 t), h => by
    obtain ⟨v, h1, h2, h3⟩ := rvs_last (.cons r2 t) (by simpa using h)
    refine ⟨v, by simpa using h1, h2, ?_⟩
    simp only [List.dropLast_cons₂]
    exact .cons r h3
/-- x = l.pop(), l a name that owns its list -/
def Sm.pop (i j : Nat) : Sm where
  sem r h := match r[j]? with
    | some (.ow (.lst l)) => (match l.getLast? with
      | some d => ofP ((Tg.n i).put d (r.set j (.ow (.lst l.dropLast)))) h
      | none => .no)
    | _ => .no
  ok := asgB (.n i) (popX j)
  need _ := True
  snd {X G ck k Wx a} C hk h n := by
    obtain ⟨tg, v, p, rfl, ht, h1, hx, h2⟩ := asgB_some h
    obtain ⟨y, ap, q, rfl, hy, hb, hl⟩ := popX_some hx
    refine PS.imp (ps_asg (pe_bm0 PySem.F.plainAttrs_list PySem.F.slot_list_pop PySem.F.type_list_pop mt_pop (pe_varB C hy) (base_of hb) hl) (sg_T C (.n i) ht) (by rw [swLc_ok C.hsc hk, h1]) (swSt_ok C.hsc hk h2) ?_) fun Dn σ H ⟨M0, H0, r, hh, M, s, k⟩ => ?_
    · rcases tgt_plain ht with ⟨x, p, rfl⟩ | ⟨es, k, p, rfl⟩ <;> rfl
    · dsimp only at k
      split at k
      · rename_i l q
        split at k
        · rename_i d hd
          obtain ⟨a, h1, ro, na, nf⟩ := s.re.ow j _ q
          cases ro with
          | lst ha rv =>
            obtain ⟨v, g1, g2, g3⟩ := rvs_last rv hd
            obtain ⟨kp, s2⟩ := s.write C.gk (o := .lst _) q h1 (.lst upd_same (g3.keep C.gk (Keep.poke nf)))
            refine ⟨_, h1, .inl ⟨rfl, _, SqL.of ha⟩, a, _, v, rfl, rfl, ha, g1, ?_⟩
            cases e : (Tg.n i).put d (r.set j (.ow (.lst l.dropLast))) with
            | none => rw [e] at k; exact k.elim
            | some r' =>
              rw [e] at k
              exact ⟨d, _, hh, M, r', s2.rl, s2.re, g2.keep C.gk kp, e, fun σ' re' si => k σ' M _ kp (s2.put e re' si)⟩
        · exact k.elim
      · exact k.elim
section
variable {r : Rho} {h : Hh} {tb : Tb}
@[simp] theorem mi_nkeys {x : Xp} : (Ib.nkeys x).sem r h = (x.sem r h).bind fun d h1 => ofO (nkE d) h1 := rfl
@[simp] theorem m_nlist {xs : List Xo} : (Xn.nlist xs).sem r h = (semB xs r h).bind fun ds h1 => ofO (onL nlE h1 ds) h1 := rfl
@[simp] theorem m_nsort {xs : List Xo} : (Xn.nsort xs).sem r h = (semB xs r h).bind fun ds h1 => ofO (onL nsE h1 ds) h1 := rfl
@[simp] theorem ms_pop {i j : Nat} : (Sm.pop i j).sem r h = match r[j]? with
    | some (.ow (.lst l)) => (match l.getLast? with
      | some d => ofP ((Tg.n i).put d (r.set j (.ow (.lst l.dropLast)))) h
      | none => .no)
    | _ => .no := rfl
theorem nd_Ib_nkeys {x : Xp} : (Ib.nkeys x).need tb = x.need tb := rfl
theorem nd_Xn_nlist {xs : List Xo} : (Xn.nlist xs).need tb = (BtL tb "list" ∧ needB xs tb) := rfl
theorem nd_Xn_nsort {xs : List Xo} : (Xn.nsort xs).need tb = (BtL tb "sorted" ∧ needB xs tb) := rfl
theorem nd_Sm_pop {i j : Nat} : (Sm.pop i j).need tb = True := rfl
end
end Pf

set_option Elab.async false
set_option linter.all false
set_option maxRecDepth 100000
set_option maxHeartbeats 1000000
/-! ## d.get(k, x) -/
namespace Pf
open PySem L2
def getB (x : Ck → Expr → Bool) (y z : Ck → Expr → Bool) (ck : Ck) (a : Expr) : Bool := match a with
  | .Call (.Attribute o n ap) [e, f] [] p => n == "get" && x ck o && y ck e && z ck f && plainBase o && (ap.endLine == p.line) && notStar e && notStar f
  | _ => false
theorem getB_some {x y z : Ck → Expr → Bool} {ck : Ck} {a : Expr} (h : getB x y z ck a = true) : ∃ o ap e f p, a = .Call (.Attribute o "get" ap) [e, f] [] p ∧ x ck o = true ∧ y ck e = true ∧ z ck f = true ∧ plainBase o = true ∧ (ap.endLine == p.line) = true ∧ notStar e = true ∧ notStar f = true := by
  unfold getB at h
  split at h
  · simp only [Bool.and_eq_true] at h
    obtain ⟨⟨⟨⟨⟨⟨⟨h0, h1⟩, h2⟩, h3⟩, h4⟩, h5⟩, h6⟩, h7⟩ := h
    rw [beq_iff_eq] at h0
    subst h0
    exact ⟨_, _, _, _, _, rfl, h1, h2, h3, h4, h5, h6, h7⟩
  · cases h
theorem m2_of {X : Cx} {o e f : Expr} {ap p : Pos} {m : Str} (hb : plainBase o = true) (hl : (ap.endLine == p.line) = true) (h1 : notStar e = true) (h2 : notStar f = true) : M2 X o m ap e f p := by
  refine ⟨base_of hb, ?_, hl, ?_⟩
  · rw [few_of (es := [e, f]) (by simp [h1, h2])]
    simp [keywordEach, backToKw]
  · rw [star_cons h1, star_cons h2]; rfl
theorem isdict_nk {X : Cx} {pins : List (Addr × Obj)} {σ : St} {s : Shared} {G : Gx} {M : Mp} {H : Hp} {l : List (D × D)} {v : V} (I : Inv X pins σ H s) (r : Vd G M H (.dcn l) v) :
    ∃ a, v = .ref a ∧ s.TypeIs (.ref a) "dict" ∧ (∀ b, Value.ref a = .ref b → ∃ ob, s.heap.get? b = some ob ∧ ob.dict = none) ∧ (a == sysModules) = false := by
  obtain ⟨d, es, ep, rfl, hm, hn, rp, hraw⟩ := nk_open (h := []) r
  obtain ⟨o, ho, hc, hd⟩ := hraw I
  refine ⟨d, rfl, ⟨o, ho, hc.1⟩, fun b q => ?_, hm⟩
  cases q
  exact ⟨o, ho, hc.2.1⟩
/-- the answer of d.get(k, x) -/
def ngetdE (d k e : D) : Option D := match d with
  | .dcn l => if nK k then some ((nLook l k).getD e) else none
  | _ => none
/-- d.get(k, x), nested keys -/
def Xp.ngetd (x : Xo) (y z : Xp) : Xp where
  sem r h := (x.sem r h).bind fun d h1 => match d with
    | .dcn _ => (y.sem r h1).bind fun k h2 => (z.sem r h2).bind fun e h3 => ofO (ngetdE d k e) h3
    | _ => .no
  ok := getB x.ok y.ok z.ok
  need t := HashL t ∧ x.need t ∧ y.need t ∧ z.need t
  star _ a h := by obtain ⟨_, _, _, _, _, rfl, _⟩ := getB_some h; rfl
  snd {X G ck k Wx a} C h n := by
    obtain ⟨o, ap, e, f, p, rfl, h1, h2, h3, hb, hl, s1, s2⟩ := getB_some h
    obtain ⟨n0, n1, n2, n3⟩ := n
    have m : M2 X o "get" ap e f p := m2_of hb hl s1 s2
    refine ⟨fun pins s σ H Qv I ⟨r, hh, M, rl, re, kk⟩ => ?_⟩
    refine wpAny_Call_method m.base m.few m.line PySem.F.plainAttrs_dict PySem.F.slot_dict_get PySem.F.type_dict_get (thn ((x.snd C h1 n1).run pins s σ H (fun v H1 => ∃ l h1 M1, Ext M H M1 H1 ∧ RL G h1 M1 H1 ∧ RB G M1 H1 (.dcn l) v ∧ KG (RV G) G Wx σ M1 H1 Qv ((y.sem r h1).bind fun k h2 => (z.sem r h2).bind fun e h3 => ofO (ngetdE (.dcn l) k e) h3)) I ⟨r, hh, M, rl, re, one kk fun d v h1 M1 H1 e1 r1 b1 k1 => ?_⟩) fun u s1 ⟨v, H1, I1, rx, l, hh1, M1, e1, r1, b1, k1⟩ => ?_)
    · try dsimp only at k1
      split at k1
      · exact ⟨_, h1, M1, e1, r1, b1, k1⟩
      · exact k1.elim
    · obtain ⟨a, rfl, t1, t2, _⟩ := isdict_nk I1 (vw_ok r1 b1 (show vw hh1 (.dcn l) = some (.dcn l) from rfl))
      obtain rfl : u = Value.ref a := rx
      refine ⟨t1, t2, ?_⟩
      rw [m.trees]
      have re1 := re.ext C.gk rl e1
      refine Calls.callWith_builtin rfl (Calls.evalArgs_plain (Calls.spliced_cons (thn ((y.snd C h2 n2).run pins s1 σ H1 (fun v H2 => ∃ d h2 M2, Ext M1 H1 M2 H2 ∧ RL G h2 M2 H2 ∧ RV G M2 H2 d v ∧ KG (RV G) G Wx σ M2 H2 Qv ((z.sem r h2).bind fun e h3 => ofO (ngetdE (.dcn l) d e) h3)) I1 ⟨r, hh1, M1, r1, re1, one k1 fun d v h2 M2 H2 e2 r2 b2 k2 => ⟨d, h2, M2, e2, r2, b2, k2⟩⟩) fun iv s2 ⟨y1, H2, I2, ry, dk, hh2, M2, e2, r2, b2, k2⟩ =>
        Calls.spliced_cons (thn ((z.snd C h3 n3).run pins s2 σ H2 (fun v H3 => ∃ d h3 M3, Ext M2 H2 M3 H3 ∧ RL G h3 M3 H3 ∧ RV G M3 H3 d v ∧ KG (RV G) G Wx σ M3 H3 Qv (ofO (ngetdE (.dcn l) dk d) h3)) I2 ⟨r, hh2, M2, r2, re1.ext C.gk r1 e2, one k2 fun d v h3 M3 H3 e3 r3 b3 k3 => ⟨d, h3, M3, e3, r3, b3, k3⟩⟩) fun fv s3 ⟨z1, H3, I3, rz, dz, hh3, M3, e3, r3, b3, k3⟩ => Calls.spliced_nil ?_))))
      have vd := vw_ok r3 ((b1.ext C.gk r1 e2).ext C.gk r2 e3) (show vw hh3 (.dcn l) = some (.dcn l) from rfl)
      have bk := b2.ext C.gk r2 e3
      unfold ngetdE at k3
      dsimp only at k3
      split at k3
      · rename_i hk
        obtain ⟨a', ea, ro⟩ := vd.thing trivial
        cases ea
        obtain ⟨xs, ep, rx, dd, hs, hn, hH⟩ := dic_open I3 C.hK n0 ro
        obtain ⟨b, rfl⟩ := isTp_ref (by unfold nK at hk; rw [Bool.and_eq_true] at hk; exact hk.1) bk
        obtain rfl : iv = Value.ref b := ry
        refine getOr_keyed (nroom C.room) (nk_is I3 C.hK hk bk) hs ⟨xs, dd, rfl⟩ ?_
        rw [valueAt_pairsH]
        rcases rx.look dk with ⟨w1, w2⟩ | ⟨d0, v0, p0, w1, w2, rd, q⟩
        · rw [w1] at k3
          rw [w2]
          exact ⟨_, H3, I3.tok _, rz, k3.here r3 b3⟩
        · rw [w1] at k3
          rw [w2]
          exact ⟨_, H3, I3.tok _, q, k3.here r3 rd⟩
      · exact k3.elim
@[simp] theorem m_ngetd {x : Xo} {y z : Xp} {r : Rho} {h : Hh} : (Xp.ngetd x y z).sem r h = (x.sem r h).bind fun d h1 => match d with
    | .dcn _ => (y.sem r h1).bind fun k h2 => (z.sem r h2).bind fun e h3 => ofO (ngetdE d k e) h3
    | _ => .no := rfl
theorem nd_Xp_ngetd {tb : Tb} {x : Xo} {y z : Xp} : (Xp.ngetd x y z).need tb = (HashL tb ∧ x.need tb ∧ y.need tb ∧ z.need tb) := rfl
end Pf

set_option Elab.async false
set_option linter.all false
set_option maxRecDepth 100000
set_option maxHeartbeats 3200000
/-! ## sorted(set(x)), x a list of whole numbers -/
namespace L2
open PySem PySem.Spec PyProof.Rows
section
variable {P : Program} {w : World} {A : Around} {E : Value → Shared → Prop} {s : Shared}
/-- the set object as made -/
abbrev fso (w : World) : Obj := { cls := .type "set", dict := none, data := .set #[] 0 (.fresh 0 0 (!w.params.followText "set-order")) }
abbrev fsh (w : World) (h : Heap) : Heap := h.push (fso w)
abbrev fsG (P : Program) (w : World) (s : Shared) (ns : List Int) (r : Value) (t : Shared) : Prop := r = .none ∧ ∃ h' tk c, t = { s with heap := h', toks := tk } ∧ SetR w h' s.heap.objs.size (fun j => decide (j ∈ ns)) c ∧ c ≤ ns.length ∧ ∀ b o, s.heap.get? b = some o → h'.get? b = some o
theorem size_fsh (w : World) (h : Heap) : (fsh w h).objs.size = h.objs.size + 1 := Heap.size_push ..
theorem fsh_old {w : World} {h : Heap} {b : Addr} {o : Obj} (e : h.get? b = some o) : (fsh w h).get? b = some o := Heap.get?_push_of_some _ e
theorem fsh_new (w : World) (h : Heap) : (fsh w h).get? h.objs.size = some (fso w) := Heap.get?_push_size _ rfl
theorem call_set_listI {l : Addr} {items : Array Value} (ns : List Int) {Q : Value → Shared → Prop} (hh : A.handled = none) (hl : s.heap.IsList l items) (hit : IntsAre items.toList ns) (hb : ns.length + 1 < scanBound)
    (h : ∀ (h' : Heap) (tk c : Nat), SetR w h' s.heap.objs.size (fun j => decide (j ∈ ns)) c → c ≤ ns.length → (∀ b o, s.heap.get? b = some o → h'.get? b = some o) → Q (.ref s.heap.objs.size) { s with heap := h', toks := tk }) :
    wpAny (model P w) A (call (.type "set") [.ref l]) Q E s := by
  have hisz : items.size = ns.length := (Array.length_toList (xs := items)).symm.trans (IntsAre.length hit)
  have ⟨c, tl, hmro⟩ := F.called_set.mro
  have hmade := F.called_set.made; have hsub := F.called_set.sub; have h1 := F.called_set.notType; have h2 := F.called_set.canCreate; have hct := F.typeCall_set_1 (.ref l)
  refine wpAny_call (codeAny_of_tree ?_)
  show wpAny _ _ (callAny (.type "set") _) _ _ _
  refine wpAny_pure ⟨Code.quiet_builtin _ (by decide +kernel), codeAny_builtin F.entry_type_call ?_⟩
  rw [Around.under_plain (weight_type_call_type "set" [.ref l] []) rfl]
  repeat (any_goals (first | assumption | wp_step))
  refine codeAny_mono (code_set_led1 (.ref l) (E := E) (Q₁ := fun obj t => obj = .ref s.heap.objs.size ∧ t = { s with heap := fsh w s.heap }) ⟨rfl, rfl⟩) fun r s₁ hr => ?_
  rcases r with e | fl
  · exact hr
  rcases fl with _ | _ | _ | obj
  · exact hr.elim
  · exact hr.elim
  · exact hr.elim
  obtain ⟨rfl, rfl⟩ := hr
  have hT : Shared.TypeIs { s with heap := fsh w s.heap } (.ref s.heap.objs.size) "set" := ⟨_, fsh_new w s.heap, rfl⟩
  have hli := F.called_set.init.lookup
  have hbi := F.called_set.init.bind (.ref s.heap.objs.size)
  repeat (any_goals (first | assumption | wp_step))
  refine codeAny_mono (codeAny_call_builtin (R := wants (fsG P w s ns) E) F.called_set.init.plain F.entry_set_init (check_set_init_1 hT ?_)) fun r₂ s₂ hr₂ => ?_
  · have hlS : l < s.heap.objs.size := hl.elim fun _ z => Heap.lt_size z.1
    have hl1 : (fsh w s.heap).IsList l items := hl.push _
    have hne : (Value.type "list" == Value.type "dict") = false := by decide
    have hsls := F.sub_list_set; have hslf := F.sub_list_frozenset
    obtain ⟨⟨ocls, odict, odata, oslots⟩, hol, hcl, nl, hdl⟩ := id hl1
    simp only at hcl hdl
    subst hcl; subst hdl
    unfold Builtin.«set.__init__» noKeywords Builtin.Frozenset.updateFrom
    generalize hPI : pyIter = PI
    wp_walk
    subst hPI
    refine wpAny_pyIter_list hl1 (wpAny_bind (wpAny_runValue ?_))
    have hh3 : A.in1.in1.in1.handled = none := by simp [hh]
    have hneI : l ≠ (fsh w s.heap).objs.size := by rw [size_fsh]; exact Nat.ne_of_lt (Nat.lt_succ_of_lt hlS)
    have hSf : s.heap.objs.size ∉ [(fsh w s.heap).objs.size, l] := by
      rw [size_fsh]
      simp only [List.mem_cons, List.not_mem_nil, or_false, not_or]
      exact ⟨Nat.ne_of_lt (Nat.lt_succ_self _), fun z => Nat.lt_irrefl _ (z ▸ hlS)⟩
    have hval : ∀ (i : Nat) (v : Value), items[i]? = some v → ∃ k t, ns[i]? = some k ∧ v = .int k t := fun i v hv => by
      have hi : i < ns.length := hisz ▸ (Array.getElem?_eq_some_iff.mp hv).1
      obtain ⟨t, e⟩ := IntsAre.int_at hit i v ((Array.getElem?_toList ..).trans hv)
      exact ⟨ns[i], t, List.getElem?_eq_getElem hi, e.trans (by rw [List.getD_eq_getElem?_getD, List.getElem?_eq_getElem hi]; rfl)⟩
    refine set_update_ints ((Walks.list hh3 _ l hneI items).toS) s.heap.objs.size hSf ns hisz hb hval (items.size - 0) 0 _ (by omega) (Nat.zero_le _) ⟨⟨_, Heap.get?_push_size _ rfl, rfl, rfl⟩, hl1.push _⟩ ⟨0, Nat.le_refl 0, setR_new_at (Heap.get?_push_of_some _ (fsh_new w s.heap))⟩ fun s' c' hm hc' hS' => ?_
    obtain ⟨h', g2, d', tk', os'⟩ := s'
    obtain rfl : g2 = s.gens := hm.gens
    obtain rfl : d' = s.drawn := hm.drawn
    obtain rfl : os' = s.os := hm.os
    show wpAny _ _ _ _ _ _
    refine wpAny_pure ?_
    show wpAny _ _ (ret Value.none) _ _ _
    refine wpAny_pure ⟨rfl, h', tk', c', rfl, hS', hisz ▸ hc', fun b o e => hm.heap b o ?_ (Heap.get?_push_of_some _ (fsh_old e))⟩
    have hb0 := Heap.lt_size e
    simp only [List.mem_cons, List.not_mem_nil, or_false, not_or]
    exact ⟨Nat.ne_of_lt hb0, by rw [size_fsh]; exact Nat.ne_of_lt (Nat.lt_succ_of_lt hb0)⟩
  · rcases r₂ with e | fl
    · exact hr₂
    rcases fl with _ | _ | _ | v
    · exact hr₂.elim
    · exact hr₂.elim
    · exact hr₂.elim
    obtain ⟨rfl, h', tk, c', rfl, g1, g2, g3⟩ := hr₂
    repeat (any_goals (first | assumption | wp_step))
    exact h _ _ _ g1 g2 g3
end
end L2

set_option Elab.async false
set_option linter.all false
set_option maxRecDepth 100000
set_option maxHeartbeats 1000000
/-! ## sorted(set(x)): the bundle -/
namespace Pf
open PySem L2 PySem.Spec PyProof.Rows
/-- the different ones, in order -/
def sosI (ns : List Int) : List Int := srtI (nubOf ns)
def tSos (K : PySem.W.Frag) (ta : TE) : TE := fun σ H Q => ta σ H fun x H1 => ∃ (l : Addr) (ns : List Int), x = V.ref l ∧ SqL K H1 l (ns.map V.int) ∧ ns.length < 4000 ∧ manyOf ns < 64 ∧ ∀ p, H1 p = none → Q (.ref p) (upd H1 p (.lst ((sosI ns).map V.int)))
theorem sosI_of {ms ns : List Int} (h1 : ms.Pairwise (· < ·)) (h2 : ∀ k, k ∈ ms ↔ k ∈ ns) : sosI ns = ms := by
  have nd : ms.Nodup := h1.imp fun h => Int.ne_of_lt h
  have pm : ms.Perm (nubOf ns) := (List.perm_ext_iff_of_nodup nd (nubOf_nd ns)).mpr fun k => (h2 k).trans (nubOf_mem ns k).symm
  exact (PySem.W.os_sorted_mergeSort pm (h1.imp fun h => Int.le_of_lt h)).symm
section
variable {X : Cx}
theorem pe_sos {a : Expr} {ta : TE} {p p2 q pos : Pos} (hc : X.calm = true) (hg : Gl X "sorted") (hm : X.mg "sorted" = none) (hg2 : Gl X "set") (hm2 : X.mg "set" = none) (ha : PE X a ta)
    (na : starEach [a] X.env = (false, eval a X.env) :: starEach [] X.env) : PE X (.Call (.Name "sorted" p) [.Call (.Name "set" p2) [a] [] q] [] pos) (tSos X.K ta) := by
  refine ⟨fun pins s σ H Q I h => ?_⟩
  refine Call_ (ld_blt I hg hm bt_sorted ?_)
  refine PyProof.Rows.callWith_builtin1 (PyProof.Rows.args_cons ?_ rfl) rfl rfl
  refine Call_ (ld_blt I hg2 hm2 PyProof.Rows.boot_set ?_)
  refine PyProof.Rows.callWith_type1 (PyProof.Rows.args_cons (thn (ha.run pins s σ H _ I h) fun v s1 ⟨x, H1, I1, r1, q1⟩ => PyProof.Rows.args_nil ?_) na) na rfl
  obtain ⟨l, ns, rfl, hq, hn, hf, q1⟩ := q1
  cases r1
  obtain ⟨its, rv, pl, hz⟩ := I1.list hq
  have hit : IntsAre its ns := intsAre_of rv
  refine call_set_listI (P := X.prog) (w := X.w) ns (I1.ok.hd hc) pl.isList (by simpa using hit) (by unfold scanBound; omega) fun h' tk c R hcn k => ?_
  refine PyProof.Rows.args_nil ?_
  have I2 : Inv X pins σ H1 { s1 with heap := h', toks := tk } := I1.kept fun b o e => k b o e
  have hc64 : c < 64 := by
    obtain ⟨o, es, ep, t, _, _, _, _, nd, hmm, _, _, hcs, _⟩ := id R
    have e1 : (es.toList.map keyOf).length = manyOf ns := many_of nd fun y => by rw [← hmm y]; simp
    simp only [List.length_map, Array.length_toList] at e1
    omega
  refine sorted_set R (I2.ok.hd hc) hc64 fun s' p' out c' ms kk g o hp hg' hi hs hmm hl => ?_
  have e : sosI ns = ms := sosI_of hs fun z => by rw [hmm z]; simp
  have hlen : (ms.map V.int).length ≤ sizeLine := by rw [List.length_map, hl, sizeLine_eq]; omega
  have hnp : H1 p' = none := I2.hok.fresh hp
  have J : Inv X pins σ (upd H1 p' (.lst (ms.map V.int))) s' :=
    I2.call' (ch := []) o (Un.laid kk hp hnp) (I2.hok.laid kk hp ⟨hlen, out.toList, c', vals_of_ints hi, hg'⟩) (by rw [g]; exact I2.bare) (fun _ z => nomatch z)
  rw [e] at q1
  exact ⟨.ref p', _, J, rfl, q1 p' hnp⟩
end
def sosD (h : Hh) : Option D → Res D
  | some (.lst l) => match intsOf1 l with
    | some ns => if ns.length < 4000 ∧ manyOf ns < 64 then .ok (.lst ((sosI ns).map D.int)) h else .no
    | none => .no
  | _ => .no
def sosB (x : Xo) (ck : Ck) (a : Expr) : Bool := match a with
  | .Call (.Name g _) [.Call (.Name f _) [e] [] _] [] _ => g == ("sorted" : Str) && f == ("set" : Str) && globB ck g && globB ck f && x.ok ck e
  | _ => false
theorem sosB_some {x : Xo} {ck : Ck} {a : Expr} (h : sosB x ck a = true) : ∃ p e q r t, a = .Call (.Name "sorted" p) [.Call (.Name "set" q) [e] [] r] [] t ∧ globB ck "sorted" = true ∧ globB ck "set" = true ∧ x.ok ck e = true := by
  unfold sosB at h
  split at h
  · simp only [Bool.and_eq_true, beq_iff_eq] at h
    obtain ⟨⟨⟨⟨rfl, rfl⟩, h1⟩, h2⟩, h3⟩ := h
    exact ⟨_, _, _, _, _, rfl, h1, h2, h3⟩
  · cases h
def Xn.sos (x : Xo) : Xn where
  sem r h := (x.sem r h).bind fun d h1 => sosD h1 (vw h1 d)
  ok := sosB x
  need t := BtL t "sorted" ∧ BtL t "set" ∧ x.need t
  star _ a h := by obtain ⟨p, e, q, r, t, rfl, _⟩ := sosB_some h; rfl
  snd {X G ck k Wx a} C h n := by
    obtain ⟨p, e, q, r, t, rfl, hg1, hg2, h3⟩ := sosB_some h
    obtain ⟨g1, g2, g3⟩ := gl_of C hg1
    obtain ⟨g4, g5, g6⟩ := gl_of C hg2
    have hs := x.star _ _ h3
    refine PE.imp (pe_sos C.calm g1 (by rw [← C.hmg]; exact n.1) g4 (by rw [← C.hmg]; exact n.2.1) (x.snd C h3 n.2.2) (star_cons hs _)) fun σ H Qv ⟨r, hh, M, rl, re, k⟩ => ⟨r, hh, M, rl, re, one k fun d v h1 M1 H1 e1 r1 b1 k1 => ?_⟩
    unfold sosD at k1
    split at k1
    · rename_i l ew
      split at k1
      · rename_i ns em
        split at k1
        · rename_i hl
          obtain ⟨p1, vs1, rfl, sq, rv1⟩ := (vw_ok r1 b1 ew).lst
          have e3 := intsOf1_map em
          subst e3
          have e4 := RVs.ints1 rv1
          subst e4
          exact ⟨p1, ns, rfl, SqL.of sq, hl.1, hl.2, fun p hp => kn_list C.gk e1 r1 (RVs.ofInts (sosI ns)) k1 p hp⟩
        · exact k1.elim
      · exact k1.elim
    · exact k1.elim
@[simp] theorem m_sos {x : Xo} {r : Rho} {h : Hh} : (Xn.sos x).sem r h = (x.sem r h).bind fun d h1 => sosD h1 (vw h1 d) := rfl
theorem nd_Xn_sos {tb : Tb} {x : Xo} : (Xn.sos x).need tb = (BtL tb "sorted" ∧ BtL tb "set" ∧ x.need tb) := rfl
end Pf

set_option Elab.async false
set_option linter.all false
set_option maxRecDepth 100000
set_option maxHeartbeats 1000000
/-! ## sorted(set(x)), however many -/
namespace Pf
open PySem L2 PySem.Spec PyProof.Rows PySem.Calls PySem.W
theorem sortOk_ints (ns : List Int) : sortOk (ns.map D.int) = true := by
  unfold sortOk
  simp only [Bool.and_eq_true, Bool.or_eq_true, List.all_eq_true]
  refine ⟨⟨fun d hd => ?_, fun d hd e he => ?_⟩, .inr fun d hd => ?_⟩
  · obtain ⟨x, _, rfl⟩ := List.mem_map.mp hd; rfl
  · obtain ⟨x, _, rfl⟩ := List.mem_map.mp hd
    obtain ⟨y, _, rfl⟩ := List.mem_map.mp he
    simp [pd, PySem.W.alike]
  · obtain ⟨x, _, rfl⟩ := List.mem_map.mp hd; rfl
theorem sortD_ints (ns : List Int) : (ns.map D.int).mergeSort (PySem.W.dataLe false pd) = (srtI ns).map D.int := by
  unfold srtI
  rw [← List.map_mergeSort (f := D.int) (l := ns) (r := fun x y => decide (x ≤ y)) (s := PySem.W.dataLe false pd) (fun a _ b _ => by
    have := congrFun (congrFun (PySem.W.dataLe_int (β := Int) id) a) b
    exact this.symm)]
def tSosL (K : PySem.W.Frag) (ta : TE) : TE := fun σ H Q => ta σ H fun x H1 => ∃ (l : Addr) (ns : List Int), x = V.ref l ∧ SqL K H1 l (ns.map V.int) ∧ ns.length < 4000 ∧ ∀ p, H1 p = none → Q (.ref p) (upd H1 p (.lst ((sosI ns).map V.int)))
section
variable {X : Cx}
theorem pe_sosL {G : Gx} (hK : G.K = X.K) {kk : Nat} (hr : Room kk X.A) {a : Expr} {ta : TE} {p p2 q pos : Pos} (hc : X.calm = true) (hg : Gl X "sorted") (hm : X.mg "sorted" = none) (hg2 : Gl X "set") (hm2 : X.mg "set" = none) (ha : PE X a ta)
    (na : starEach [a] X.env = (false, eval a X.env) :: starEach [] X.env) : PE X (.Call (.Name "sorted" p) [.Call (.Name "set" p2) [a] [] q] [] pos) (tSosL X.K ta) := by
  refine ⟨fun pins s σ H Q I h => ?_⟩
  refine Call_ (ld_blt I hg hm bt_sorted ?_)
  refine PyProof.Rows.callWith_builtin1 (PyProof.Rows.args_cons ?_ rfl) rfl rfl
  refine Call_ (ld_blt I hg2 hm2 PyProof.Rows.boot_set ?_)
  refine PyProof.Rows.callWith_type1 (PyProof.Rows.args_cons (thn (ha.run pins s σ H _ I h) fun v s1 ⟨x, H1, I1, r1, q1⟩ => PyProof.Rows.args_nil ?_) na) na rfl
  obtain ⟨l, ns, rfl, hq, hn, q1⟩ := q1
  cases r1
  obtain ⟨its, rv, pl, hz⟩ := I1.list hq
  have hit : IntsAre its ns := intsAre_of rv
  refine call_set_listI (P := X.prog) (w := X.w) ns (I1.ok.hd hc) pl.isList (by simpa using hit) (by unfold scanBound; omega) fun h' tk c R hcn k => ?_
  refine PyProof.Rows.args_nil ?_
  have I2 : Inv X pins σ H1 { s1 with heap := h', toks := tk } := I1.kept fun b o e => k b o e
  obtain ⟨o, es, ep, t, ho, hex, hd, g, nd, hmm, hb, hf, hcs, hri, hl⟩ := R
  refine Calls.call_function_entry kind_sorted plain_sorted entry_sorted (args_sorted1 _) ?_
  unfold Builtin.«sorted»
  refine wpAny_bind (m := checkCount "sorted" 1 1 _) (wpAny_pure ?_)
  refine wpAny_bind (collect_set (A := X.A.in1) (I2.ok.hd hc) ⟨o, ho, hex.1, hd⟩ hf hb hri hl fun s2 vs k1 hz1 g1 o1 pm => ?_)
  have hI : IntsAre vs (vs.map Builtin.Re.reRawOf) := ints_of vs fun v hv => by
    obtain ⟨e, he, q⟩ := List.mem_map.mp (pm.mem_iff.mp hv)
    obtain ⟨k, tk, h1, _⟩ := g e he
    exact ⟨k, tk, by rw [← q]; exact h1⟩
  have pk : (vs.map Builtin.Re.reRawOf).Perm (es.toList.map keyOf) := by
    have q := pm.map Builtin.Re.reRawOf
    rw [List.map_map] at q
    exact q
  generalize hms : vs.map Builtin.Re.reRawOf = ms at hI pk
  have hml : ms.length = vs.length := by rw [← hms, List.length_map]
  have hvl : vs.length ≤ ns.length := by
    rw [pm.length_eq, List.length_map, Array.length_toList]; omega
  have hvz : vs.length ≤ sizeLine := by rw [sizeLine_eq]; omega
  refine wpAny_bind (wpAny_newList ?_ hvz)
  have rvs : Vals (ms.map V.int) vs := vals_of_ints hI
  have rds : RVs G ⟨fun _ => False, []⟩ H1 (ms.map D.int) (ms.map V.int) := RVs.ofInts ms
  obtain ⟨s1', s2', s3'⟩ := sortOk_some (sortOk_ints ms)
  obtain ⟨f1, g2⟩ := each_of hK I2 s1' rds rvs
  have at1 : (s2.heap.push (seqObj "list" vs.toArray 0)).get? s2.heap.objs.size = some (seqObj "list" vs.toArray 0) := Heap.get?_push_size _ rfl
  have ne : ∀ b o, s2.heap.get? b = some o → b ≠ s2.heap.objs.size := fun b o q => Nat.ne_of_lt (Heap.lt_size q)
  have g3 : PySem.W.EachIs (fun v c => ∃ as, Reads (PySem.W.sortingHeap (s2.heap.push (seqObj "list" vs.toArray 0)) s2.heap.objs.size vs) v (pd c) as) vs (ms.map D.int) :=
    g2.mono fun _ _ ⟨as, r⟩ => ⟨as, PyProof.Rows.Reads.keeps (fun b o q => sortingHeap_old (ne b o (k1 b o q)) (Heap.get?_push_of_some _ (k1 b o q))) r⟩
  have S := PySem.W.SortsAt.data (A := X.A.in1.in1) (prog := X.prog) (w := X.w) (s := { s2 with heap := PySem.W.sortingHeap (s2.heap.push (seqObj "list" vs.toArray 0)) s2.heap.objs.size vs }) (PySem.W.each_map (R := fun v d => ∃ as, Reads (PySem.W.sortingHeap (s2.heap.push (seqObj "list" vs.toArray 0)) s2.heap.objs.size vs) v d as) pd g3) s2' s3' (PySem.W.bound_map fun c hc => by have h3 := (canLay_dep 58 c (s1' c hc)).2; have h4 := hr.un; simp only [Around.in1]; omega)
  refine wpAny_bind (wpAny_holding (wpAny_call_entry_kw slot_list_sort ⟨_, at1, rfl⟩ entry_list_sort (PySem.W.list_sort_vals (s := { s2 with heap := s2.heap.push (seqObj "list" vs.toArray 0) }) at1 S hvz ⟨_, rfl, wpAny_pure ⟨_, rfl, ?_⟩⟩) (args_list_sort _)))
  have eo := PySem.W.sortVals_data (R := fun v c => ∃ x, RelV x v ∧ RV G ⟨fun _ => False, []⟩ H1 c x) (enc := pd) false f1 g3 s2'
  obtain ⟨ep2, he'⟩ := PyProof.Rows.sortedHeap_at (vs := vs) (out := (PySem.W.sortVals _ false vs vs).toArray) at1
  obtain ⟨ys, y1, y2⟩ := each_back eo
  rw [sortD_ints] at y2
  have ey := RVs.ints1 y2
  have esos : sosI ns = srtI ms := by
    refine sosI_of (lt_of_le_nodup _ ?_ ?_) fun z => ?_
    · have := List.pairwise_mergeSort (le := fun (x y : Int) => decide (x ≤ y)) (fun a b c h1 h2 => by simp only [decide_eq_true_eq] at *; omega) (fun a b => by simp only [Bool.or_eq_true, decide_eq_true_eq]; omega) ms
      exact this.imp fun h => by simpa using h
    · exact (List.mergeSort_perm ms _).nodup_iff.mpr (pk.nodup_iff.mpr nd)
    · unfold srtI
      rw [List.mem_mergeSort, pk.mem_iff, ← hmm z]; simp
  subst ey
  rw [← esos] at y1
  have hlen : ((sosI ns).map V.int).length ≤ sizeLine := by
    rw [esos, List.length_map]
    unfold srtI
    rw [List.length_mergeSort, hml]; exact hvz
  have hp : s1.heap.objs.size ≤ s2.heap.objs.size ∧ ({ s1 with heap := h', toks := tk } : Shared).heap.objs.size ≤ s2.heap.objs.size := ⟨Nat.le_trans (by
    have := Heap.lt_size ho
    exact Nat.le_of_lt this) hz1, hz1⟩
  have kf : ∀ (out : Array Value) b o, ({ s1 with heap := h', toks := tk } : Shared).heap.get? b = some o → (PyProof.Rows.sortedHeap (s2.heap.push (seqObj "list" vs.toArray 0)) s2.heap.objs.size vs out).get? b = some o := fun out b o q => (PyProof.Rows.sortedHeap_old (ne b o (k1 b o q)) (by rw [Heap.size_push]; exact Nat.lt_succ_of_lt (Heap.lt_size (k1 b o q)))).trans (Heap.get?_push_of_some _ (k1 b o q))
  have hnp : H1 s2.heap.objs.size = none := I2.hok.fresh hp.2
  refine ⟨.ref s2.heap.objs.size, upd H1 s2.heap.objs.size (.lst ((sosI ns).map V.int)), I2.call' (ch := []) o1 (Un.laid (kf _) hp.2 hnp) (I2.hok.laid (kf _) hp.2 ⟨hlen, _, ep2, y1, he'⟩) ?_ (fun _ z => nomatch z), rfl, q1 s2.heap.objs.size hnp⟩
  show AllBare s2.gens
  rw [g1]; exact I2.bare
end
def sosDL (h : Hh) : Option D → Res D
  | some (.lst l) => match intsOf1 l with
    | some ns => if ns.length < 4000 then .ok (.lst ((sosI ns).map D.int)) h else .no
    | none => .no
  | _ => .no
def Xn.sosL (x : Xo) : Xn where
  sem r h := (x.sem r h).bind fun d h1 => sosDL h1 (vw h1 d)
  ok := sosB x
  need t := BtL t "sorted" ∧ BtL t "set" ∧ x.need t
  star _ a h := by obtain ⟨p, e, q, r, t, rfl, _⟩ := sosB_some h; rfl
  snd {X G ck k Wx a} C h n := by
    obtain ⟨p, e, q, r, t, rfl, hg1, hg2, h3⟩ := sosB_some h
    obtain ⟨g1, g2, g3⟩ := gl_of C hg1
    obtain ⟨g4, g5, g6⟩ := gl_of C hg2
    have hs := x.star _ _ h3
    refine PE.imp (pe_sosL C.hK C.room C.calm g1 (by rw [← C.hmg]; exact n.1) g4 (by rw [← C.hmg]; exact n.2.1) (x.snd C h3 n.2.2) (star_cons hs _)) fun σ H Qv ⟨r, hh, M, rl, re, k⟩ => ⟨r, hh, M, rl, re, one k fun d v h1 M1 H1 e1 r1 b1 k1 => ?_⟩
    unfold sosDL at k1
    split at k1
    · rename_i l ew
      split at k1
      · rename_i ns em
        split at k1
        · rename_i hl
          obtain ⟨p1, vs1, rfl, sq, rv1⟩ := (vw_ok r1 b1 ew).lst
          have e3 := intsOf1_map em
          subst e3
          have e4 := RVs.ints1 rv1
          subst e4
          exact ⟨p1, ns, rfl, SqL.of sq, hl, fun p hp => kn_list C.gk e1 r1 (RVs.ofInts (sosI ns)) k1 p hp⟩
        · exact k1.elim
      · exact k1.elim
    · exact k1.elim
@[simp] theorem m_sosL {x : Xo} {r : Rho} {h : Hh} : (Xn.sosL x).sem r h = (x.sem r h).bind fun d h1 => sosDL h1 (vw h1 d) := rfl
theorem nd_Xn_sosL {tb : Tb} {x : Xo} : (Xn.sosL x).need tb = (BtL tb "sorted" ∧ BtL tb "set" ∧ x.need tb) := rfl
end Pf

set_option Elab.async false
set_option linter.all false
set_option maxRecDepth 100000
set_option maxHeartbeats 1000000
/-! ## len(set(x)), x a list of whole numbers -/
namespace Pf
open PySem L2 PySem.Spec PyProof.Rows
def tLenSetI (K : PySem.W.Frag) (ta : TE) : TE := fun σ H Q => ta σ H fun x H1 => ∃ (l : Addr) (ns : List Int), x = V.ref l ∧ SqL K H1 l (ns.map V.int) ∧ ns.length < 4000 ∧ Q (.int (manyOf ns : Nat)) H1
theorem pe_lenSetI {X : Cx} {a : Expr} {ta : TE} {p p2 q pos : Pos} (hc : X.calm = true) (hg : Gl X "len") (hm : X.mg "len" = none) (hg2 : Gl X "set") (hm2 : X.mg "set" = none) (ha : PE X a ta)
    (na : starEach [a] X.env = (false, eval a X.env) :: starEach [] X.env) : PE X (.Call (.Name "len" p) [.Call (.Name "set" p2) [a] [] q] [] pos) (tLenSetI X.K ta) := by
  refine ⟨fun pins s σ H Q I h => ?_⟩
  refine Call_ (ld_blt I hg hm PySem.boot_len ?_)
  refine PyProof.Rows.callWith_builtin1 (PyProof.Rows.args_cons ?_ rfl) rfl rfl
  refine Call_ (ld_blt I hg2 hm2 PyProof.Rows.boot_set ?_)
  refine PyProof.Rows.callWith_type1 (PyProof.Rows.args_cons (thn (ha.run pins s σ H _ I h) fun v s1 ⟨x, H1, I1, r1, q1⟩ => PyProof.Rows.args_nil ?_) na) na rfl
  obtain ⟨l, ns, rfl, hq, hf, q1⟩ := q1
  cases r1
  obtain ⟨its, rv, pl, hz⟩ := I1.list hq
  have hit : IntsAre its ns := intsAre_of rv
  refine call_set_listI (P := X.prog) (w := X.w) ns (I1.ok.hd hc) pl.isList (by simpa using hit) (by unfold scanBound; omega) fun h' tk c R hcn k => ?_
  refine PyProof.Rows.args_nil ?_
  have I2 : Inv X pins σ H1 { s1 with heap := h', toks := tk } := I1.kept fun b o e => k b o e
  obtain ⟨o, es, ep, t, ho, hex, hd, g, nd, hmm, hb, hft, hcs, hri, hl⟩ := R
  have e1 : (es.toList.map keyOf).length = manyOf ns := many_of nd fun y => by rw [← hmm y]; simp
  simp only [List.length_map, Array.length_toList] at e1
  exact call_len_set ho hex hd hft (by omega) ⟨.int (manyOf ns : Nat), H1, I2.tok _, ⟨_, by rw [e1]⟩, q1⟩
def lenSetDI (h : Hh) : Option D → Res D
  | some (.lst l) => match intsOf1 l with
    | some ns => if ns.length < 4000 then .ok (.int (manyOf ns : Nat)) h else .no
    | none => .no
  | _ => .no
def Xp.lensetI (x : Xo) : Xp where
  sem r h := (x.sem r h).bind fun d h1 => lenSetDI h1 (vw h1 d)
  ok := lenSetB x
  need t := BtL t "len" ∧ BtL t "set" ∧ x.need t
  star _ a h := by obtain ⟨p, e, q, r, t, rfl, _⟩ := lenSetB_some h; rfl
  snd {X G ck k Wx a} C h n := by
    obtain ⟨p, e, q, r, t, rfl, hg1, hg2, h3⟩ := lenSetB_some h
    obtain ⟨g1, g2, g3⟩ := gl_of C hg1
    obtain ⟨g4, g5, g6⟩ := gl_of C hg2
    have hs := x.star _ _ h3
    refine PE.imp (pe_lenSetI C.calm g1 (by rw [← C.hmg]; exact n.1) g4 (by rw [← C.hmg]; exact n.2.1) (x.snd C h3 n.2.2) (star_cons hs _)) fun σ H Qv ⟨r, hh, M, rl, re, k⟩ => ⟨r, hh, M, rl, re, one k fun d v h1 M1 H1 e1 r1 b1 k1 => ?_⟩
    unfold lenSetDI at k1
    split at k1
    · rename_i l ew
      split at k1
      · rename_i ns em
        split at k1
        · rename_i hl
          obtain ⟨p1, vs1, rfl, sq, rv1⟩ := (vw_ok r1 b1 ew).lst
          have e3 := intsOf1_map em
          subst e3
          have e4 := RVs.ints1 rv1
          subst e4
          refine ⟨p1, ns, rfl, SqL.of sq, hl, ?_⟩
          exact k1.here r1 (.int _)
        · exact k1.elim
      · exact k1.elim
    · exact k1.elim
@[simp] theorem m_lensetI {x : Xo} {r : Rho} {h : Hh} : (Xp.lensetI x).sem r h = (x.sem r h).bind fun d h1 => lenSetDI h1 (vw h1 d) := rfl
theorem nd_Xp_lensetI {tb : Tb} {x : Xo} : (Xp.lensetI x).need tb = (BtL tb "len" ∧ BtL tb "set" ∧ x.need tb) := rfl
end Pf

set_option Elab.async false
set_option linter.all false
set_option maxRecDepth 100000
set_option maxHeartbeats 1000000
/-! ## x = [e for .. for ..] on one line -/
namespace Pf
open PySem L2
theorem lc2Sem_nd {e : Xp} {t : Tg} {it : Ib} {ifs : Option Xt} {t1 : Tg} {it1 : Ib} {ifs1 : Option Xt} {own : List (Str × Nat)} {r : Rho} {h : Hh} : ∀ d h', lc2Sem e t it ifs t1 it1 ifs1 own r h = .ok d h' → ∀ l, d ≠ .dct l := by
  intro d h' q l z
  subst z
  unfold lc2Sem at q
  cases q0 : it.sem r h with
  | no => rw [q0] at q; cases q
  | exc c fs hx => rw [q0] at q; cases q
  | ok xs hx =>
    rw [q0] at q
    simp only [bind_ok] at q
    cases q1 : lc2Go t (semT ifs) it1.sem t1 (semT ifs1) e.sem (wipeR r (own.map (·.2))) 0 xs hx <;> rw [q1] at q <;> cases q
theorem ps_lc2 {X : Cx} {G : Gx} {ck : Ck} {k : Nat} {Wx : WX} {st : Stmt} {i : Nat} {e : Xp} {t : Tg} {it : Ib} {ifs : Option Xt} {t1 : Tg} {it1 : Ib} {ifs1 : Option Xt} {own : List (Str × Nat)} (C : Cok X G ck k Wx) (hk : ck.sc.kind = .function) (h : lcStB i (lc2B e t it ifs t1 it1 ifs1 own) ck st = true) (n : (Xn.lc2 e t it ifs t1 it1 ifs1 own).need (tbOf X G k)) :
    PS X st (fun Dn σ H => tN G Wx (lc2Sem e t it ifs t1 it1 ifs1 own) σ H fun v H1 => Dn.nx (σ.set i (some v)) H1) := by
  unfold lcStB at h
  split at h
  · simp only [Bool.and_eq_true, atB, decide_eq_true_eq] at h
    obtain ⟨⟨⟨ha, hst⟩, hsw⟩, hl⟩ := h
    obtain ⟨x, tg, iter, cs, tg1, iter1, cs1, scope, p, rfl, h1, h2, h3, h4, h5, h6, h7, h8, h9, h10, h11, h12⟩ := lc2B_some hl
    rename_i y py ps
    have sw := swLc_ok (l := ps.line) (v := .ListComp x [⟨tg, iter, cs, 0⟩, ⟨tg1, iter1, cs1, 0⟩] scope p) (tg := .Name y py) C.hsc hk
    rw [hsw] at sw
    have hyl : X.env.scope.names.lookup y = some .local := by
      unfold swLc at hsw
      simp only [Bool.and_eq_true, beq_iff_eq] at hsw
      rw [C.hsc]
      exact hsw.1.1
    exact PS.imp (ps_setLc2 C.calm C.nd (by rw [C.hN]; exact ha) hyl sw (it.snd C h7 h3 n.2.1) (blkOk_by (by rw [C.hN, C.hsc]; exact h1)) (fun i hi => by simpa using List.all_eq_true.mp h8 i hi)
      (fun s H Cc cl fp => sg_T (C.blk (s := s) (H := H) (scope := scope) (Cc := Cc) (cl := cl) (fp := fp)) t h4)
      (fun s H Cc cl fp => sndT ifs (C.blk (s := s) (H := H) (scope := scope) (Cc := Cc) (cl := cl) (fp := fp)) h5 n.2.2.1)
      (fun s H Cc cl fp => it1.snd (C.blk (s := s) (H := H) (scope := scope) (Cc := Cc) (cl := cl) (fp := fp)) h12 h9 n.2.2.2.1)
      (fun s H Cc cl fp => sg_T (C.blk (s := s) (H := H) (scope := scope) (Cc := Cc) (cl := cl) (fp := fp)) t1 h10)
      (fun s H Cc cl fp => sndT ifs1 (C.blk (s := s) (H := H) (scope := scope) (Cc := Cc) (cl := cl) (fp := fp)) h11 n.2.2.2.2)
      (fun s H Cc cl fp => e.snd (C.blk (s := s) (H := H) (scope := scope) (Cc := Cc) (cl := cl) (fp := fp)) h6 n.1) (by
        have h4 := it.set _ _ h3
        intro v
        cases iter <;> first | rfl | (simp [notSet] at h4)) (by
        have h4 := it1.set _ _ h9
        intro env v
        cases iter1 <;> first | rfl | (simp [notSet] at h4))) fun Dn σ H q => lc2_read C h2 h8 σ H _ q
  · cases h
def Sm.asgLc2 (i : Nat) (e : Xp) (t : Tg) (it : Ib) (ifs : Option Xt) (t1 : Tg) (it1 : Ib) (ifs1 : Option Xt) (own : List (Str × Nat)) : Sm where
  sem r h := (lc2Sem e t it ifs t1 it1 ifs1 own r h).st r fun d h1 => .nx (r.set i (.pl d)) h1
  ok := lcStB i (lc2B e t it ifs t1 it1 ifs1 own)
  need := (Xn.lc2 e t it ifs t1 it1 ifs1 own).need
  snd {X G ck k Wx a} C hk h n := PS.imp (ps_lc2 C hk h n) fun Dn σ H ⟨M0, H0, r, hh, M, s, k⟩ => ⟨r, hh, M, s.rl, s.re, kn_fz C.gk (lc2Sem_nd) (oneS C.gk s k fun d v h1 M1 H1 e1 s1 rv k1 => k1 _ M1 H1 Keep.refl (s1.set rv))⟩
@[simp] theorem ms_asgLc2 {i : Nat} {e : Xp} {t : Tg} {it : Ib} {ifs : Option Xt} {t1 : Tg} {it1 : Ib} {ifs1 : Option Xt} {own : List (Str × Nat)} {r : Rho} {h : Hh} : (Sm.asgLc2 i e t it ifs t1 it1 ifs1 own).sem r h = (lc2Sem e t it ifs t1 it1 ifs1 own r h).st r fun d h1 => .nx (r.set i (.pl d)) h1 := rfl
theorem nd_Sm_asgLc2 {tb : Tb} {i : Nat} {e : Xp} {t : Tg} {it : Ib} {ifs : Option Xt} {t1 : Tg} {it1 : Ib} {ifs1 : Option Xt} {own : List (Str × Nat)} : (Sm.asgLc2 i e t it ifs t1 it1 ifs1 own).need tb = (Xn.lc2 e t it ifs t1 it1 ifs1 own).need tb := rfl
end Pf

set_option Elab.async false
set_option linter.all false
set_option maxRecDepth 100000
namespace Ev
open PySem L2 Pf
def N_fewest_marks : List Str := ["length", "asks", "mark"]
def P_fewest_marks : List Str := ["length", "asks"]
def ir_fewest_marks : List Si :=
  [.s (Sm.ex (Xp.call "check_count" F_check_count [(Xp.v 0), (Xp.g "MAX_LENGTH" (.int 1000000000))])),
   .s (Sm.ex (Xp.call "check_asks" F_check_asks [(Xp.v 1)])),
   .s (Sm.ret (Xp.bj .max [((Xp.fz (Xn.lstS [.inl (Xp.c (.int 0)), .inr ((Xp.fz (Xn.lc (Xp.bin .Add (Xo.v 2) ((Xp.c (.int 1))).o) (.n 2) (Ib.seq (Xp.call "marks_of" F_marks_of [(Xp.g "MAX_ASKS" (.int 40)), (Xp.v 0), (Xp.v 1)])) none [("mark", 2)]))).o]))).o]))]
def F_fewest_marks : Fsem := pureOf (fnF 3 2 ir_fewest_marks)

def N_is_short : List Str := ["count", "length", "asks"]
def P_is_short : List Str := ["count", "length", "asks"]
def ir_is_short : List Si :=
  [.s (Sm.ret (Xp.cmp .In ((Xp.c .non)).o ((Xp.call "marks_of" F_marks_of [(Xp.v 0), (Xp.v 1), (Xp.v 2)])).o))]
def F_is_short : Fsem := pureOf (fnF 3 3 ir_is_short)

def N_shortest_length : List Str := ["count", "asks", "gaps", "length", "begun", "maker", "later", "other", "gap"]
def P_shortest_length : List Str := ["count", "asks"]
def ir_shortest_length : List Si :=
  [.s (Sm.ex (Xp.call "check_count" F_check_count [(Xp.v 0), (Xp.g "MAX_COUNT" (.int 9))])),
   .s (Sm.ex (Xp.call "check_asks" F_check_asks [(Xp.v 1)])),
   .s (Sm.asgLc2 2 (Xp.bin .Sub (Xo.v 6) (Xo.v 4)) (.tu [(.n 4), (.n 5)]) (Ib.seq (Xp.v 1)) none (.tu [(.n 6), (.n 7)]) (Ib.seq (Xp.v 1)) (some (Xt.chain .LtE .Lt ((Xp.c (.int 0))).o ((Xp.bin .Sub (Xo.v 6) (Xo.v 4))).o ((Xp.g "MAX_LENGTH" (.int 1000000000))).o)) [("begun", 4), ("maker", 5), ("later", 6), ("other", 7)]),
   .s (Sm.for_ (.n 3) (Ib.seq (Xp.fz (Xn.sosL ((Xp.fz (Xn.lc (Xp.bin .Add (Xo.v 8) ((Xp.c (.int 1))).o) (.n 8) (Ib.seq (Xp.v 2)) none [("gap", 8)]))).o)))
    [.s (Sm.ife (Xt.e ((Xp.call "is_short" F_is_short [(Xp.v 0), (Xp.v 3), (Xp.v 1)])).o)
      [.s (Sm.ret (Xp.v 3))]
      []), .kill [3]]),
   .s (Sm.ret (Xp.c .non))]
def F_shortest_length : Fsem := pureOf (fnF 9 2 ir_shortest_length)

end Ev

set_option Elab.async false
set_option linter.all false
set_option maxRecDepth 100000
namespace Ev
open PySem L2 Pf
def N__law_taken : List Str := ["_law_row", "_law_many", "_law_cell", "_law_found"]
def P__law_taken : List Str := ["_law_row", "_law_many"]
def ir__law_taken : List Si :=
  [.s (Sm.ife (Xt.cmp .Gt ((Xp.ix (Xo.v 0) ((Xp.c (.int 3))).o)).o ((Xp.c (.int 0))).o)
    [.s (Sm.asg (.n 3) (Xp.bin .Mod ((Xp.bi .int [((Xp.ix (Xo.v 0) ((Xp.c (.int 3))).o)).o])).o (Xo.v 1))),
     .s (Sm.setH (Xp.v 0) (Xp.c (.int 3)) (Xp.bin .FloorDiv ((Xp.ix (Xo.v 0) ((Xp.c (.int 3))).o)).o (Xo.v 1))),
     .s (Sm.ret (Xp.v 3))]
    []),
   .kill [3],
   .s (Sm.setH (Xp.v 0) (Xp.c (.int 1)) (Xp.bin .Add ((Xp.ix (Xo.v 0) ((Xp.c (.int 1))).o)).o ((Xp.c (.int 1))).o)),
   .s (Sm.ife (Xt.cmp .Gt ((Xp.ix (Xo.v 0) ((Xp.c (.int 1))).o)).o ((Xp.bi .len [((Xp.ix (Xo.v 0) ((Xp.c (.int 0))).o)).o])).o)
    [.s (Sm.setH (Xp.v 0) (Xp.c (.int 2)) (Xp.bin .Mod ((Xp.bi .int [((Xp.bin .Add ((Xp.bin .Mult ((Xp.ix (Xo.v 0) ((Xp.c (.int 2))).o)).o ((Xp.c (.int 48271))).o)).o ((Xp.c (.int 11))).o)).o])).o ((Xp.c (.int 2147483647))).o)),
     .s (Sm.ret (Xp.bin .Mod ((Xp.bi .int [((Xp.bin .FloorDiv ((Xp.ix (Xo.v 0) ((Xp.c (.int 2))).o)).o ((Xp.c (.int 7))).o)).o])).o (Xo.v 1)))]
    []),
   .s (Sm.asg (.n 2) (Xp.ix ((Xp.ix (Xo.v 0) ((Xp.c (.int 0))).o)).o ((Xp.bin .Sub ((Xp.ix (Xo.v 0) ((Xp.c (.int 1))).o)).o ((Xp.c (.int 1))).o)).o)),
   .s (Sm.setH (Xp.v 0) (Xp.c (.int 2)) (Xp.bin .Mod ((Xp.bi .int [((Xp.bin .Add ((Xp.bin .Add ((Xp.bin .Mult ((Xp.ix (Xo.v 0) ((Xp.c (.int 2))).o)).o ((Xp.c (.int 48271))).o)).o (Xo.v 2))).o ((Xp.c (.int 11))).o)).o])).o ((Xp.c (.int 2147483647))).o)),
   .s (Sm.ife (Xt.cmp .GtE (Xo.v 2) ((Xp.bin .Pow ((Xp.c (.int 10))).o ((Xp.c (.int 18))).o)).o)
    [.s (Sm.setH (Xp.v 0) (Xp.c (.int 3)) (Xp.bin .FloorDiv (Xo.v 2) (Xo.v 1)))]
    []),
   .s (Sm.ret (Xp.bin .Mod ((Xp.bi .int [(Xo.v 2)])).o (Xo.v 1)))]
def F__law_taken : Fsem := rowOf (fnF 4 2 ir__law_taken)

def N__law_asks : List Str := ["_law_row", "_law_most", "_law_step", "_law_k", "_law_found", "_law_time"]
def P__law_asks : List Str := ["_law_row", "_law_most", "_law_step"]
def ir__law_asks : List Si :=
  [.s (Sm.par [4, 5] [.inr (Xn.lst []), .inl (Xp.ix ((Xp.fz (Xn.lst [(Xp.c (.int 0)), (Xp.bin .Pow ((Xp.c (.int 10))).o ((Xp.c (.int 12))).o)]))).o ((Xp.call "_law_taken" F__law_taken [(Xp.v 0), (Xp.c (.int 2))])).o)]),
   .s (Sm.for_ (.n 3) (Ib.r1 (Xp.call "_law_taken" F__law_taken [(Xp.v 0), (Xp.bin .Add (Xo.v 1) ((Xp.c (.int 1))).o)]))
    [.s (Sm.asg (.n 5) (Xp.bin .Add (Xo.v 5) ((Xp.call "_law_taken" F__law_taken [(Xp.v 0), (Xp.v 2)])).o)),
     .s (Sm.app 4 (Xp.tup [(Xp.v 5), (Xp.call "_law_taken" F__law_taken [(Xp.v 0), (Xp.c (.int 5))])])), .kill [3]]),
   .s (Sm.ret (Xp.bi .tuple [(Xo.v 4)]))]
def F__law_asks : Fsem := rowOf (fnF 6 3 ir__law_asks)

def N__law_are_late : List Str := ["_law_row", "_law_count", "_law_length", "_law_asks_here", "_law_shift", "_law_moved", "_law_short", "_law_marks", "_law_fewest", "_law_time", "_law_maker"]
def P__law_are_late : List Str := ["_law_row", "_law_count", "_law_length", "_law_asks_here"]
def ir__law_are_late : List Si :=
  [.s (Sm.par [7, 8] [.inl (Xp.call "lent" F_lent [(Xp.v 1), (Xp.v 2), (Xp.v 3)]), .inl (Xp.call "fewest_marks" F_fewest_marks [(Xp.v 2), (Xp.v 3)])]),
   .s (Sm.asg (.n 4) (Xp.bin .Mult ((Xp.bin .Pow ((Xp.c (.int 10))).o ((Xp.c (.int 9))).o)).o ((Xp.bin .Add ((Xp.c (.int 1))).o ((Xp.call "_law_taken" F__law_taken [(Xp.v 0), (Xp.c (.int 99))])).o)).o)),
   .s (Sm.asg (.n 5) (Xp.bi .tuple [((Xp.fz (Xn.lc (Xp.tup [(Xp.bin .Add (Xo.v 9) (Xo.v 4)), (Xp.v 10)]) (.tu [(.n 9), (.n 10)]) (Ib.seq (Xp.v 3)) none [("_law_time", 9), ("_law_maker", 10)]))).o])),
   .s (Sm.ife (Xt.or (Xt.cmp .NotEq ((Xp.call "lent" F_lent [(Xp.v 1), (Xp.v 2), (Xp.v 5)])).o (Xo.v 7)) (Xt.cmp .NotEq ((Xp.call "fewest_marks" F_fewest_marks [(Xp.v 2), (Xp.v 5)])).o (Xo.v 8)))
    [.s (Sm.ret (Xp.c (.bl false)))]
    []),
   .s (Sm.ife (Xt.cmp .NotEq ((Xp.call "shortest_length" F_shortest_length [(Xp.v 1), (Xp.v 5)])).o ((Xp.call "shortest_length" F_shortest_length [(Xp.v 1), (Xp.v 3)])).o)
    [.s (Sm.ret (Xp.c (.bl false)))]
    []),
   .s (Sm.asg (.n 6) (Xp.call "shortest_length" F_shortest_length [(Xp.v 1), (Xp.v 3)])),
   .s (Sm.ife (Xt.and (Xt.cmp .IsNot (Xo.v 6) ((Xp.c .non)).o) (Xt.cmp .NotIn ((Xp.c .non)).o ((Xp.call "lent" F_lent [(Xp.v 1), (Xp.v 6), (Xp.v 3)])).o))
    [.s (Sm.ret (Xp.c (.bl false)))]
    []),
   .s (Sm.ife (Xt.and (Xt.cmp .IsNot (Xo.v 6) ((Xp.c .non)).o) (Xt.and (Xt.cmp .Gt (Xo.v 6) ((Xp.c (.int 1))).o) (Xt.cmp .In ((Xp.c .non)).o ((Xp.call "lent" F_lent [(Xp.v 1), (Xp.bin .Sub (Xo.v 6) ((Xp.c (.int 1))).o), (Xp.v 3)])).o)))
    [.s (Sm.ret (Xp.c (.bl false)))]
    []),
   .s (Sm.ife (Xt.and (Xt.cmp .Is (Xo.v 6) ((Xp.c .non)).o) (Xt.cmp .In ((Xp.c .non)).o (Xo.v 7)))
    [.s (Sm.ret (Xp.c (.bl false)))]
    []),
   .s (Sm.ret (Xp.c (.bl true)))]
def F__law_are_late : Fsem := rowOf (fnF 11 4 ir__law_are_late)

def N_law : List Str := ["_law_script", "_law_row", "_law_turn", "_law_k", "_law_asks_here", "_law_count", "_law_length", "_law_marks", "_law_fewest", "_law_some", "_law_end", "_law_time", "_law_maker", "_law_one"]
def P_law : List Str := ["_law_script"]
def ir_law : List Si :=
  [.s (Sm.asg (.n 1) (Xp.hp (Xn.lst [(Xp.v 0), (Xp.c (.int 0)), (Xp.c (.int 0)), (Xp.c (.int 0))]))),
   .s (Sm.for_ (.n 2) (Ib.r1 (Xp.c (.int 4)))
    [.s (Sm.par [4, 5, 6] [.inl (Xp.call "_law_asks" F__law_asks [(Xp.v 1), (Xp.c (.int 16)), (Xp.c (.int 6))]), .inl (Xp.bin .Add ((Xp.c (.int 1))).o ((Xp.call "_law_taken" F__law_taken [(Xp.v 1), (Xp.c (.int 5))])).o), .inl (Xp.bin .Add ((Xp.c (.int 1))).o ((Xp.call "_law_taken" F__law_taken [(Xp.v 1), (Xp.c (.int 14))])).o)]),
     .s (Sm.par [7, 8] [.inl (Xp.call "lent" F_lent [(Xp.v 5), (Xp.v 6), (Xp.v 4)]), .inl (Xp.call "fewest_marks" F_fewest_marks [(Xp.v 6), (Xp.v 4)])]),
     .s (Sm.ife (Xt.or (Xt.cmp .NotEq ((Xp.bi .len [(Xo.v 7)])).o ((Xp.bi .len [(Xo.v 4)])).o) (Xt.cmp .NotEq ((Xp.cmp .In ((Xp.c .non)).o (Xo.v 7))).o ((Xp.cmp .Gt (Xo.v 8) (Xo.v 5))).o))
      [.s (Sm.ret (Xp.c (.bl false)))]
      []),
     .s (Sm.for_ (.n 3) (Ib.r1 (Xp.bi .len [(Xo.v 4)]))
      [.s (Sm.ife (Xt.cmp .NotEq ((Xp.call "lent" F_lent [(Xp.v 5), (Xp.v 6), (Xp.sl (Xo.v 4) none (some (Xp.v 3)))])).o ((Xp.sl (Xo.v 7) none (some (Xp.v 3)))).o)
        [.s (Sm.ret (Xp.c (.bl false)))]
        []),
       .s (Sm.asg (.tu [(.n 11), (.n 12)]) (Xp.ix (Xo.v 4) (Xo.v 3))),
       .s (Sm.asg (.n 9) (Xp.call "holders" F_holders [(Xp.v 5), (Xp.v 6), (Xp.sl (Xo.v 4) none (some (Xp.bin .Add (Xo.v 3) ((Xp.c (.int 1))).o))), (Xp.v 11)])),
       .s (Sm.ife (Xt.and (Xt.cmp .NotIn ((Xp.tup [(Xp.ix (Xo.v 7) (Xo.v 3)), (Xp.v 12)])).o (Xo.v 9)) (Xt.cmp .IsNot ((Xp.ix (Xo.v 7) (Xo.v 3))).o ((Xp.c .non)).o))
        [.s (Sm.ret (Xp.c (.bl false)))]
        []),
       .s (Sm.ife (Xt.and (Xt.cmp .Is ((Xp.ix (Xo.v 7) (Xo.v 3))).o ((Xp.c .non)).o) (Xt.or (Xt.cmp .NotEq ((Xp.bi .len [(Xo.v 9)])).o (Xo.v 5)) (Xt.cmp .In (Xo.v 12) ((Xp.fz (Xn.lc (Xp.ix (Xo.v 13) ((Xp.c (.int 1))).o) (.n 13) (Ib.seq (Xp.v 9)) none [("_law_one", 13)]))).o)))
        [.s (Sm.ret (Xp.c (.bl false)))]
        []),
       .s (Sm.ife (Xt.or (Xt.cmp .NotEq ((Xp.lensetI ((Xp.fz (Xn.lc (Xp.ix (Xo.v 13) ((Xp.c (.int 0))).o) (.n 13) (Ib.seq (Xp.v 9)) none [("_law_one", 13)]))).o)).o ((Xp.bi .len [(Xo.v 9)])).o) (Xt.cmp .NotEq ((Xp.lensetI ((Xp.fz (Xn.lc (Xp.ix (Xo.v 13) ((Xp.c (.int 1))).o) (.n 13) (Ib.seq (Xp.v 9)) none [("_law_one", 13)]))).o)).o ((Xp.bi .len [(Xo.v 9)])).o))
        [.s (Sm.ret (Xp.c (.bl false)))]
        []), .kill [3, 9, 11, 12]]),
     .s (Sm.ife (Xt.cmp .NotEq (Xo.v 4) ((Xp.tup [])).o)
      [.s (Sm.asg (.n 10) (Xp.bin .Add ((Xp.ix ((Xp.ix (Xo.v 4) ((Xp.neg (Xp.c (.int 1)))).o)).o ((Xp.c (.int 0))).o)).o (Xo.v 6))),
       .s (Sm.ife (Xt.cmp .NotEq ((Xp.call "holders" F_holders [(Xp.v 5), (Xp.v 6), (Xp.v 4), (Xp.v 10)])).o ((Xp.fz (Xn.lst []))).o)
        [.s (Sm.ret (Xp.c (.bl false)))]
        []),
       .s (Sm.ife (Xt.and (Xt.cmp .IsNot ((Xp.ix (Xo.v 7) ((Xp.neg (Xp.c (.int 1)))).o)).o ((Xp.c .non)).o) (Xt.cmp .Eq ((Xp.call "holders" F_holders [(Xp.v 5), (Xp.v 6), (Xp.v 4), (Xp.bin .Sub (Xo.v 10) ((Xp.c (.int 1))).o)])).o ((Xp.fz (Xn.lst []))).o))
        [.s (Sm.ret (Xp.c (.bl false)))]
        [])]
      []),
     .kill [10],
     .s (Sm.ife (Xt.and (Xt.chain .Lt .Lt ((Xp.c (.int 0))).o (Xo.v 8) ((Xp.c (.int 10))).o) (Xt.cmp .NotEq ((Xp.call "lent" F_lent [(Xp.v 8), (Xp.v 6), (Xp.v 4)])).o ((Xp.call "lent" F_lent [(Xp.c (.int 9)), (Xp.v 6), (Xp.v 4)])).o))
      [.s (Sm.ret (Xp.c (.bl false)))]
      []),
     .s (Sm.ife (Xt.and (Xt.cmp .Gt (Xo.v 8) ((Xp.c (.int 1))).o) (Xt.and (Xt.cmp .Lt (Xo.v 8) ((Xp.c (.int 10))).o) (Xt.cmp .NotIn ((Xp.c .non)).o ((Xp.call "lent" F_lent [(Xp.bin .Sub (Xo.v 8) ((Xp.c (.int 1))).o), (Xp.v 6), (Xp.v 4)])).o)))
      [.s (Sm.ret (Xp.c (.bl false)))]
      []),
     .s (Sm.ife (Xt.not (Xt.e ((Xp.call "_law_are_late" F__law_are_late [(Xp.v 1), (Xp.v 5), (Xp.v 6), (Xp.v 4)])).o))
      [.s (Sm.ret (Xp.c (.bl false)))]
      []), .kill [2, 3, 4, 5, 6, 7, 8, 9, 10, 11, 12]]),
   .s (Sm.ret (Xp.c (.bl true)))]
def F_law : Fsem := pureOf (fnF 14 1 ir_law)

end Ev

set_option Elab.async false
set_option linter.all false
set_option maxRecDepth 100000
set_option maxHeartbeats 1000000
/-! ## k31: what the law draws and computes -/
namespace Ev
open PySem L2 Pf
def mkRow (ns : List Int) (i g r : Int) : D := .lst [.lsc (ns.map .int), .int i, .int g, .int r]
structure RowP (ns : List Int) (i g r : Int) : Prop where
  i0 : 0 ≤ i
  g0 : 0 ≤ g
  g1 : g < 2147483647
  r0 : 0 ≤ r
  nl : ns.length ≤ 1000
def Row (o : D) : Prop := ∃ ns i g r, o = mkRow ns i g r ∧ RowP ns i g r
theorem nr_row (ns : List Int) (i g r : Int) : nr (mkRow ns i g r) = true := by
  simp [mkRow, nr, nrs, nrs_map D.int (fun _ => rfl)]
theorem Row.nr {o : D} (h : Row o) : nr o = true := by
  obtain ⟨ns, i, g, r, rfl, _⟩ := h
  exact nr_row ns i g r
theorem at_taken (m : Int) (hm : 0 < m) (hm2 : m < 10000000000) (o : D) (ro : Row o) : ∃ (v : Nat) (o' : D), Row o' ∧ (v : Int) < m ∧ F__law_taken [.ref 0, .int m] [o] = .ok (.int v) [o'] := by
  obtain ⟨ns, i, g, r, rfl, i0, g0, g1, r0, nl⟩ := ro
  have md : ∀ x : Int, ∃ v : Nat, (v : Int) < m ∧ x % m = v := fun x => ⟨(x % m).toNat, by have := Int.emod_lt_of_pos x hm; have := Int.emod_nonneg x (show m ≠ 0 by omega); omega, by have := Int.emod_nonneg x (show m ≠ 0 by omega); omega⟩
  by_cases h1 : 0 < r
  · obtain ⟨v, v1, v2⟩ := md r
    refine ⟨v, mkRow ns i g (r / m), ⟨ns, i, g, _, rfl, i0, g0, g1, Int.ediv_nonneg r0 (by omega), nl⟩, v1, ?_⟩
    refine (row_of (h := [mkRow ns i g r]) (i := 0) (h' := []) rfl (nr_row ..) rfl rfl rfl (nr_row _ _ _ _) ?_)
    unfold ir__law_taken mkRow
    simp [startR, on1, on2, onL, semB, vws, biE, ixE, items, binE, h1, hm, show m < 18446744073709551616 by omega, v2, ixNat, Tg.put]
  · by_cases h2 : (ns.length : Int) < i + 1
    · obtain ⟨v, v1, v2⟩ := md (((g * 48271 + 11) % 2147483647) / 7)
      refine ⟨v, mkRow ns (i + 1) ((g * 48271 + 11) % 2147483647) r, ⟨ns, _, _, r, rfl, by omega, by omega, by omega, r0, nl⟩, v1, ?_⟩
      refine (row_of (h := [mkRow ns i g r]) (i := 0) (h' := []) rfl (nr_row ..) rfl rfl rfl (nr_row _ _ _ _) ?_)
      unfold ir__law_taken mkRow
      simp [startR, on1, on2, onL, semB, vws, biE, lenE, ixE, items, binE, h1, hm, h2, mulOk, v2, ixNat, Tg.put, killR]
    · have hi : i.toNat < ns.length := by omega
      obtain ⟨v, v1, v2⟩ := md ns[i.toNat]
      refine ⟨v, mkRow ns (i + 1) ((g * 48271 + ns[i.toNat] + 11) % 2147483647) (if 1000000000000000000 ≤ ns[i.toNat] then ns[i.toNat] / m else r), ⟨ns, _, _, _, rfl, by omega, by omega, by omega, ?_, nl⟩, v1, ?_⟩
      · split
        · exact Int.ediv_nonneg (by omega) (by omega)
        · omega
      refine (row_of (h := [mkRow ns i g r]) (i := 0) (h' := []) rfl (nr_row ..) rfl rfl rfl (nr_row _ _ _ _) ?_)
      have hx : atI (ns.map D.int) i = some (.int ns[i.toNat]) := by
        have := atI_nat (ns.map D.int) i.toNat
        rw [show ((i.toNat : Nat) : Int) = i by omega] at this
        rw [this, List.getElem?_map, List.getElem?_eq_getElem hi]; rfl
      unfold ir__law_taken mkRow
      have e1 : i + 1 - 1 = i := by omega
      by_cases h3 : 1000000000000000000 ≤ ns[i.toNat]
      · simp [startR, on1, on2, onL, semB, vws, biE, lenE, ixE, items, binE, h1, hm, h2, mulOk, powOk, v2, ixNat, Tg.put, killR, e1, hx, h3, show m < 18446744073709551616 by omega]
      · simp [startR, on1, on2, onL, semB, vws, biE, lenE, ixE, items, binE, h1, hm, h2, mulOk, powOk, v2, ixNat, Tg.put, killR, e1, hx, h3]
/-- drawn asks -/
structure Drawn (most step : Nat) (t : Int) (xs : List (Int × Int)) : Prop where
  asc : Asc t xs
  len : xs.length ≤ most
  rng : ∀ a ∈ xs, a.1 ≤ t + most * step ∧ 0 ≤ a.2 ∧ a.2 < 5
def asB : Rho → Hh → Out := semSs [.s (Sm.asg (.n 5) (Xp.bin .Add (Xo.v 5) ((Xp.call "_law_taken" F__law_taken [(Xp.v 0), (Xp.v 2)])).o)),
     .s (Sm.app 4 (Xp.tup [(Xp.v 5), (Xp.call "_law_taken" F__law_taken [(Xp.v 0), (Xp.c (.int 5))])])), .kill [3]]
theorem as_loop (most step : Int) (hs : 0 < step) (hs2 : step < 1000) : ∀ (n : Nat) (ks : List D) (acc : List (Int × Int)) (t : Int) (o : D), ks.length = n → acc.length + n < 1000 → Row o →
    ∃ (ys : List (Int × Int)) (t' : Int) (o' : D), Row o' ∧ Asc t ys ∧ ys.length = n ∧ (∀ a ∈ ys, a.1 ≤ t + n * step ∧ 0 ≤ a.2 ∧ a.2 < 5) ∧
      forGo (.n 3) asB ks [.pl (.ref 0), .pl (.int most), .pl (.int step), .un, .ow (.lst (acc.map dv)), .pl (.int t)] [o] = .nx [.pl (.ref 0), .pl (.int most), .pl (.int step), .un, .ow (.lst ((acc ++ ys).map dv)), .pl (.int t')] [o']
  | 0, [], acc, t, o, _, _, ro => ⟨[], t, o, ro, trivial, rfl, by simp, by simp [forGo]⟩
  | 0, _ :: _, acc, t, o, e, _, _ => by simp at e
  | n + 1, [], acc, t, o, e, _, _ => by simp at e
  | n + 1, x :: ks, acc, t, o, e, hl, ro => by
    obtain ⟨v, o1, r1, hv, e1⟩ := at_taken step hs (by omega) o ro
    obtain ⟨k, o2, r2, hk, e2⟩ := at_taken 5 (by omega) (by omega) o1 r1
    obtain ⟨ys, t', o', r', a1, a2, a3, e3⟩ := as_loop most step hs hs2 n ks (acc ++ [(t + v, (k : Int))]) (t + v) o2 (by simpa using e) (by simp; omega) r2
    refine ⟨(t + v, (k : Int)) :: ys, t', o', r', ⟨by dsimp only; omega, a1⟩, by simp [a2], ?_, ?_⟩
    · intro a ha
      have hns : (n : Int) * step ≥ 0 := Int.mul_nonneg (by omega) (by omega)
      have hns2 : ((n + 1 : Nat) : Int) * step = n * step + step := by rw [Int.natCast_add, Int.add_mul]; simp
      rcases List.mem_cons.mp ha with rfl | ha
      · dsimp only; rw [hns2]; exact ⟨by omega, by omega, by omega⟩
      · obtain ⟨b1, b2, b3⟩ := a3 a ha
        rw [hns2]; exact ⟨by omega, b2, b3⟩
    · have hl2 : acc.length < 16777216 := by omega
      have body : asB [.pl (.ref 0), .pl (.int most), .pl (.int step), .pl x, .ow (.lst (acc.map dv)), .pl (.int t)] [o] = .nx [.pl (.ref 0), .pl (.int most), .pl (.int step), .un, .ow (.lst ((acc ++ [(t + v, (k : Int))]).map dv)), .pl (.int (t + v))] [o2] := by
        simp [asB, semA, e1, e2, on2, binE, Tg.put, line, hl2, killR, dv]
      have : forGo (.n 3) asB (x :: ks) [.pl (.ref 0), .pl (.int most), .pl (.int step), .un, .ow (.lst (acc.map dv)), .pl (.int t)] [o] = forGo (.n 3) asB ks [.pl (.ref 0), .pl (.int most), .pl (.int step), .un, .ow (.lst ((acc ++ [(t + v, (k : Int))]).map dv)), .pl (.int (t + v))] [o2] := by
        simp only [forGo, Tg.put, List.set_cons_succ, List.set_cons_zero, body]
      rw [this, e3]
      simp
theorem at_asks (most step : Int) (hm : 0 ≤ most) (hm2 : most < 100) (hs : 0 < step) (hs2 : step < 1000) (o : D) (ro : Row o) : ∃ (xs : List (Int × Int)) (t : Int) (o' : D), Row o' ∧ (0 ≤ t ∧ t ≤ 1000000000000) ∧ Asc t xs ∧ (xs.length : Int) ≤ most ∧ (∀ a ∈ xs, a.1 ≤ t + most * step ∧ 0 ≤ a.2 ∧ a.2 < 5) ∧
    F__law_asks [.ref 0, .int most, .int step] [o] = .ok (.tup (xs.map dv)) [o'] := by
  obtain ⟨b, o1, r1, hb, e1⟩ := at_taken 2 (by omega) (by omega) o ro
  obtain ⟨n, o2, r2, hn, e2⟩ := at_taken (most + 1) (by omega) (by omega) o1 r1
  obtain ⟨t, ht0, ht1, ht⟩ : ∃ t : Int, 0 ≤ t ∧ t ≤ 1000000000000 ∧ atI [D.int 0, D.int 1000000000000] (b : Int) = some (D.int t) := by
    have : b = 0 ∨ b = 1 := by omega
    rcases this with rfl | rfl
    · exact ⟨0, by omega, by omega, by simp⟩
    · exact ⟨1000000000000, by omega, by omega, by simp⟩
  have hkl : ((List.range (n : Int).toNat).map fun (k : Nat) => D.int (k : Int)).length = n := by simp
  obtain ⟨ys, t', o', r', a1, a2, a3, e3⟩ := as_loop most step hs hs2 n _ [] t o2 hkl (by simp; omega) r2
  refine ⟨ys, t, o', r', ⟨ht0, ht1⟩, a1, by omega, fun a ha => ?_, ?_⟩
  · obtain ⟨b1, b2, b3⟩ := a3 a ha
    have : (n : Int) * step ≤ most * step := Int.mul_le_mul_of_nonneg_right (by omega) (by omega)
    exact ⟨by omega, b2, b3⟩
  · refine (row_of (h := [o]) (i := 0) (h' := []) rfl ro.nr rfl rfl (by simp [nr, nrs_dv]) r'.nr ?_)
    have hr : rngOk (n : Int) = true := by
      unfold rngOk
      rw [Bool.and_eq_true, decide_eq_true_eq, decide_eq_true_eq]
      exact ⟨by omega, by omega⟩
    have st0 : startR 6 [.ref 0, .int most, .int step] = [.pl (.ref 0), .pl (.int most), .pl (.int step), .un, .un, .un] := rfl
    unfold ir__law_asks
    rw [st0, ss_s]
    have p0 : (Xp.bin .Pow ((Xp.c (.int 10))).o ((Xp.c (.int 12))).o).sem [.pl (.ref 0), .pl (.int most), .pl (.int step), .un, .un, .un] [o] = .ok (.int 1000000000000) [o] := rfl
    have p00 : (Xp.fz (Xn.lst [(Xp.c (.int 0)), (Xp.bin .Pow ((Xp.c (.int 10))).o ((Xp.c (.int 12))).o)])).sem [.pl (.ref 0), .pl (.int most), .pl (.int step), .un, .un, .un] [o] = .ok (.lst [.int 0, .int 1000000000000]) [o] := by
      rw [m_fz, mn_lst]
      simp only [semA, p0, m_c, bind_ok]
      rfl
    have p1 : ∀ f : Rho → Hh → Out, ((Sm.par [4, 5] [.inr (Xn.lst []), .inl (Xp.ix ((Xp.fz (Xn.lst [(Xp.c (.int 0)), (Xp.bin .Pow ((Xp.c (.int 10))).o ((Xp.c (.int 12))).o)]))).o ((Xp.call "_law_taken" F__law_taken [(Xp.v 0), (Xp.c (.int 2))])).o)]).sem [.pl (.ref 0), .pl (.int most), .pl (.int step), .un, .un, .un] [o]).then f = f [.pl (.ref 0), .pl (.int most), .pl (.int step), .un, .ow (.lst []), .pl (.int t)] [o1] := fun f => by
      have q : (Xp.ix ((Xp.fz (Xn.lst [(Xp.c (.int 0)), (Xp.bin .Pow ((Xp.c (.int 10))).o ((Xp.c (.int 12))).o)]))).o ((Xp.call "_law_taken" F__law_taken [(Xp.v 0), (Xp.c (.int 2))])).o).sem [.pl (.ref 0), .pl (.int most), .pl (.int step), .un, .un, .un] [o] = .ok (.int t) [o1] := by
        have c1 : (Xp.call "_law_taken" F__law_taken [(Xp.v 0), (Xp.c (.int 2))]).sem [.pl (.ref 0), .pl (.int most), .pl (.int step), .un, .un, .un] [o] = .ok (.int b) [o1] := by simp [semA, e1]
        rw [m_ix, mo_o, p00, bind_ok, mo_o, c1, bind_ok]
        show ofO (atI [D.int 0, D.int 1000000000000] (b : Int)) [o1] = _
        rw [ht]; rfl
      have c2 : (Xn.lst []).sem [.pl (.ref 0), .pl (.int most), .pl (.int step), .un, .un, .un] [o] = .ok (.lst []) [o] := rfl
      rw [ms_par]
      simp only [semX, Xa.sem, c2, bind_ok, q]
      rfl
    rw [p1, ss_s, ms_for]
    have p2 : (Ib.r1 (Xp.call "_law_taken" F__law_taken [(Xp.v 0), (Xp.bin .Add (Xo.v 1) ((Xp.c (.int 1))).o)])).sem [.pl (.ref 0), .pl (.int most), .pl (.int step), .un, .ow (.lst []), .pl (.int t)] [o1] = .ok ((List.range (n : Int).toNat).map fun (k : Nat) => D.int (k : Int)) [o2] := by
      have : (Xp.call "_law_taken" F__law_taken [(Xp.v 0), (Xp.bin .Add (Xo.v 1) ((Xp.c (.int 1))).o)]).sem [.pl (.ref 0), .pl (.int most), .pl (.int step), .un, .ow (.lst []), .pl (.int t)] [o1] = .ok (.int n) [o2] := by simp [semA, on2, binE, e2]
      rw [mi_r1, this, bind_ok]
      simp only [hr, if_true]
    rw [p2, st_ok]
    simp only [List.map_nil, List.nil_append] at e3
    show outR ((forGo (.n 3) asB _ _ _).then _) = _
    rw [e3, then_nx]
    rfl
end Ev

set_option Elab.async false
set_option linter.all false
set_option maxRecDepth 100000
/-! ## fewest marks, shortest lengths: what the desk does with other sizes, other spans -/
namespace Ev
open PySem L2 Pf
theorem rng_mem {n m : Int} : m ∈ rngI n ↔ 0 ≤ m ∧ m < n := by
  unfold rngI
  rw [List.mem_map]
  constructor
  · rintro ⟨i, hi, rfl⟩
    have := List.mem_range.mp hi
    omega
  · rintro ⟨h1, h2⟩
    exact ⟨m.toNat, List.mem_range.mpr (by omega), by omega⟩
theorem rng_split {c C : Int} (h0 : 0 ≤ c) (h : c ≤ C) : ∃ t, rngI C = rngI c ++ t ∧ ∀ m ∈ t, c ≤ m := by
  refine ⟨(List.range' c.toNat (C.toNat - c.toNat)).map fun (i : Nat) => (i : Int), ?_, ?_⟩
  · unfold rngI
    rw [← List.map_append]
    congr 1
    rw [List.range_eq_range', List.range_eq_range']
    have := List.range'_append (s := 0) (m := c.toNat) (n := C.toNat - c.toNat) (step := 1)
    simp only [Nat.one_mul, Nat.zero_add] at this
    rw [this]
    congr 1; omega
  · intro m hm
    obtain ⟨i, hi, rfl⟩ := List.mem_map.mp hm
    have := List.mem_range'_1.mp hi
    omega
def Low (c : Int) (R : Tab) : Prop := ∀ m ∈ keys R, m < c
theorem low_live {c : Int} {R : Tab} (h : Low c R) (l t : Int) : Low c (liveT l t R) := fun m hm => h m ((List.filter_sublist.map _).subset hm)
theorem low_put {c : Int} {R : Tab} (h : Low c R) {m : Int} (hm : m < c) (v : Int × Int) : Low c (tput R m v) := fun n hn => by
  rw [keys_tput] at hn
  split at hn
  · exact h n hn
  · rcases List.mem_append.mp hn with z | z
    · exact h n z
    · simp at z; omega
theorem own_mem {R : Tab} {k m : Int} (h : m ∈ ownT R k) : m ∈ keys R := by
  unfold ownT at h
  exact mem_srt.mp (List.mem_filter.mp h).1
/-- a smaller desk does the same until it has no mark -/
theorem run_size {c C : Int} (h0 : 0 ≤ c) (h : c ≤ C) (l : Int) : ∀ (xs : List (Int × Int)) (R : Tab), Low c R → ((runA c l R xs).1 = (runA C l R xs).1 ∧ ∀ x ∈ (runA C l R xs).1, ∃ m, x = some m ∧ m < c) ∨ (none ∈ (runA c l R xs).1 ∧ ∃ x ∈ (runA C l R xs).1, ∀ m, x = some m → c ≤ m)
  | [], R, _ => .inl ⟨rfl, by simp [runA]⟩
  | a :: xs, R, lo => by
    have lv := low_live lo l a.1
    simp only [runA]
    have key : ((askP c l R a.1 a.2) = (askP C l R a.1 a.2) ∧ Low c (askP C l R a.1 a.2).2 ∧ ∃ m, (askP C l R a.1 a.2).1 = some m ∧ m < c) ∨ ((askP c l R a.1 a.2).1 = none ∧ ∀ m, (askP C l R a.1 a.2).1 = some m → c ≤ m) := by
      unfold askP
      dsimp only
      generalize liveT l a.1 R = r at lv
      cases ho : ownT r a.2 with
      | cons m os =>
        have hm : m < c := lv m (own_mem (by rw [ho]; exact List.mem_cons_self))
        exact .inl ⟨rfl, low_put lv hm _, m, rfl, hm⟩
      | nil =>
        obtain ⟨t, e, ht⟩ := rng_split h0 h
        have ef : freeT C r = freeT c r ++ t.filter fun m => (tlook r m).isNone := by unfold freeT; rw [e, List.filter_append]
        rw [ef]
        cases hf : freeT c r with
        | cons m fs =>
          have hm : m < c := by
            have : m ∈ freeT c r := by rw [hf]; exact List.mem_cons_self
            unfold freeT at this
            exact (rng_mem.mp (List.mem_filter.mp this).1).2
          exact .inl ⟨rfl, low_put lv hm _, m, rfl, hm⟩
        | nil =>
          refine .inr ⟨rfl, fun m hm => ?_⟩
          rw [List.nil_append] at hm
          cases hq : t.filter fun m => (tlook r m).isNone with
          | nil => rw [hq] at hm; simp [pickM] at hm
          | cons n ns =>
            rw [hq] at hm
            simp [pickM] at hm
            subst hm
            have : n ∈ t.filter fun m => (tlook r m).isNone := by rw [hq]; exact List.mem_cons_self
            exact ht n (List.mem_filter.mp this).1
    rcases key with ⟨k1, k2, m, k3, k4⟩ | ⟨k1, k2⟩
    · rw [k1]
      rcases run_size h0 h l xs _ k2 with ⟨g1, g2⟩ | ⟨g1, x, g2, g3⟩
      · refine .inl ⟨by rw [g1], fun x hx => ?_⟩
        rcases List.mem_cons.mp hx with rfl | hx
        · exact ⟨m, k3, k4⟩
        · exact g2 x hx
      · exact .inr ⟨List.mem_cons_of_mem _ g1, x, List.mem_cons_of_mem _ g2, g3⟩
    · exact .inr ⟨by rw [k1]; exact List.mem_cons_self, _, List.mem_cons_self, k2⟩
theorem nodup_lenI : ∀ {l m : List Int}, l.Nodup → (∀ x ∈ l, x ∈ m) → l.length ≤ m.length
  | [], m, _, _ => Nat.zero_le _
  | x :: l, m, nd, h => by
    obtain ⟨h1, h2⟩ := List.nodup_cons.mp nd
    have hx := h x List.mem_cons_self
    have ih := nodup_lenI (m := m.erase x) h2 fun y hy => by
      have : y ≠ x := fun z => h1 (z ▸ hy)
      exact (List.mem_erase_of_ne this).mpr (h y (List.mem_cons_of_mem _ hy))
    rw [List.length_erase_of_mem hx] at ih
    have := List.length_pos_of_mem hx
    rw [List.length_cons]; omega
/-- a desk with room enough always has a mark -/
theorem run_room {C : Int} (l : Int) : ∀ (xs : List (Int × Int)) (R : Tab), (keys R).Nodup → (R.length : Int) + xs.length ≤ C → none ∉ (runA C l R xs).1
  | [], R, _, _ => by simp [runA]
  | a :: xs, R, nd, hl => by
    simp only [runA, List.mem_cons, not_or]
    have ll := live_len R l a.1
    have nl := live_nodup nd l a.1
    simp only [List.length_cons] at hl
    refine ⟨fun z => ?_, run_room l xs _ (askP_nd C l nd a.1 a.2) (by have := askP_len C l R a.1 a.2; omega)⟩
    unfold askP at z
    dsimp only at z
    generalize liveT l a.1 R = r at z ll nl
    cases hp : pickM (ownT r a.2) (freeT C r) with
    | some m => rw [hp] at z; cases z
    | none =>
      have hf : freeT C r = [] := by
        unfold pickM at hp
        cases ho : ownT r a.2 with
        | cons m os => rw [ho] at hp; cases hp
        | nil =>
          rw [ho] at hp
          cases hq : freeT C r with
          | nil => rfl
          | cons m fs => rw [hq] at hp; cases hp
      have sub : ∀ m ∈ rngI C, m ∈ keys r := fun m hm => by
        rw [mem_keys]
        cases q : tlook r m with
        | some v => rfl
        | none =>
          have : m ∈ freeT C r := by unfold freeT; exact List.mem_filter.mpr ⟨hm, by rw [q]; rfl⟩
          rw [hf] at this; simp at this
      have ndr : (rngI C).Nodup := by
        unfold rngI
        unfold List.Nodup
        rw [List.pairwise_map]
        exact List.nodup_range.imp fun h z => h (by omega)
      have hle := nodup_lenI ndr sub
      have e1 : (rngI C).length = C.toNat := by simp [rngI]
      have e2 : (keys r).length = r.length := by simp [keys]
      omega
/-- the most mark and one -/
def topM (xs : List (Option Int)) : Int := xs.foldl (fun a x => match x with | some m => max a (m + 1) | none => a) 0
theorem topM_go : ∀ (xs : List (Option Int)) (a c : Int), xs.foldl (fun a x => match x with | some m => max a (m + 1) | none => a) a ≤ c ↔ a ≤ c ∧ ∀ m, some m ∈ xs → m < c
  | [], a, c => by simp
  | none :: xs, a, c => by
    rw [List.foldl_cons, topM_go xs a c]; simp
  | some m :: xs, a, c => by
    rw [List.foldl_cons, topM_go xs _ c]
    dsimp only
    constructor
    · rintro ⟨h1, h2⟩
      refine ⟨by omega, fun n hn => ?_⟩
      rcases List.mem_cons.mp hn with z | z
      · cases z; omega
      · exact h2 n z
    · rintro ⟨h1, h2⟩
      have := h2 m List.mem_cons_self
      exact ⟨by omega, fun n hn => h2 n (List.mem_cons_of_mem _ hn)⟩
theorem topM_le (xs : List (Option Int)) (c : Int) : topM xs ≤ c ↔ 0 ≤ c ∧ ∀ m, some m ∈ xs → m < c := topM_go xs 0 c
theorem fewest_iff {c C l : Int} (h0 : 0 ≤ c) (hc : c ≤ C) {xs : List (Int × Int)} (hl : (xs.length : Int) ≤ C) : none ∈ (runA c l [] xs).1 ↔ c < topM (runA C l [] xs).1 := by
  have rm := run_room (C := C) l xs [] (by simp [keys]) (by simpa using hl)
  have le := topM_le (runA C l [] xs).1 c
  rcases run_size h0 hc l xs [] (fun m hm => by simp [keys] at hm) with ⟨g1, g2⟩ | ⟨g1, x, g2, g3⟩
  · rw [g1]
    have : topM (runA C l [] xs).1 ≤ c := le.mpr ⟨h0, fun m hm => by obtain ⟨n, e, hn⟩ := g2 _ hm; cases e; exact hn⟩
    exact ⟨fun z => absurd z rm, fun z => by omega⟩
  · refine ⟨fun _ => ?_, fun _ => g1⟩
    refine Int.not_le.mp fun z => ?_
    have := (le.mp z).2
    cases x with
    | none => exact rm g2
    | some m => have h1 := this m g2; have h2 := g3 m rfl; omega
theorem topM_le40 {C l : Int} {xs : List (Int × Int)} (h : 0 ≤ C) : topM (runA C l [] xs).1 ≤ C := by
  rcases run_size h (Int.le_refl C) l xs [] (fun m hm => by simp [keys] at hm) with ⟨_, g2⟩ | ⟨g1, x, g2, g3⟩
  · exact (topM_le _ _).mpr ⟨h, fun m hm => by obtain ⟨n, e, hn⟩ := g2 _ hm; cases e; exact hn⟩
  · refine (topM_le _ _).mpr ⟨h, ?_⟩
    have : ∀ (xs : List (Int × Int)) (R : Tab), Low C R → ∀ m, some m ∈ (runA C l R xs).1 → m < C := by
      intro xs
      induction xs with
      | nil => intro R _ m hm; simp [runA] at hm
      | cons a xs ih =>
        intro R lo m hm
        simp only [runA] at hm
        have lv := low_live lo l a.1
        have st : Low C (askP C l R a.1 a.2).2 ∧ ∀ m, (askP C l R a.1 a.2).1 = some m → m < C := by
          unfold askP
          dsimp only
          generalize liveT l a.1 R = r at lv
          cases hp : pickM (ownT r a.2) (freeT C r) with
          | none => exact ⟨lv, fun m z => by cases z⟩
          | some n =>
            have hn : n < C := by
              unfold pickM at hp
              cases ho : ownT r a.2 with
              | cons q os =>
                rw [ho] at hp; cases hp
                exact lv _ (own_mem (by rw [ho]; exact List.mem_cons_self))
              | nil =>
                rw [ho] at hp
                cases hq : freeT C r with
                | nil => rw [hq] at hp; cases hp
                | cons q fs =>
                  rw [hq] at hp; cases hp
                  have : n ∈ freeT C r := by rw [hq]; exact List.mem_cons_self
                  unfold freeT at this
                  exact (rng_mem.mp (List.mem_filter.mp this).1).2
            exact ⟨low_put lv hn _, fun m z => by cases z; exact hn⟩
        rcases List.mem_cons.mp hm with z | z
        · exact st.2 m z.symm
        · exact ih _ st.1 m z
    exact this xs [] (fun m hm => by simp [keys] at hm)
/-! ### other spans -/
theorem tput_vals {R : Tab} {m : Int} {v : Int × Int} {p : Int × Int × Int} (h : p ∈ tput R m v) : p ∈ R ∨ p.2 = v := by
  unfold tput at h
  split at h
  · obtain ⟨q, hq, rfl⟩ := List.mem_map.mp h
    split
    · exact .inr rfl
    · exact .inl hq
  · rcases List.mem_append.mp h with h | h
    · exact .inl h
    · simp at h; subst h; exact .inr rfl
theorem run_span (c : Int) {l l' : Int} : ∀ (xs : List (Int × Int)) (R : Tab), (∀ p ∈ R, ∀ a ∈ xs, (a.1 < p.2.2 + l ↔ a.1 < p.2.2 + l')) → (∀ b ∈ xs, ∀ a ∈ xs, (a.1 < b.1 + l ↔ a.1 < b.1 + l')) → (runA c l R xs).1 = (runA c l' R xs).1
  | [], R, _, _ => rfl
  | a :: xs, R, h1, h2 => by
    have e1 : liveT l a.1 R = liveT l' a.1 R := by
      unfold liveT
      refine List.filter_congr fun p hp => ?_
      have := h1 p hp a List.mem_cons_self
      simp only [this]
    have e2 : askP c l R a.1 a.2 = askP c l' R a.1 a.2 := by unfold askP; rw [e1]
    simp only [runA]
    rw [e2, run_span c xs _ (fun p hp b hb => ?_) fun b hb d hd => h2 b (List.mem_cons_of_mem _ hb) d (List.mem_cons_of_mem _ hd)]
    have : p ∈ R ∨ p.2 = (a.2, a.1) := by
      unfold askP at hp
      dsimp only at hp
      split at hp
      · exact .inl (List.mem_filter.mp hp).1
      · rcases tput_vals hp with z | z
        · exact .inl (List.mem_filter.mp z).1
        · exact .inr z
    rcases this with z | z
    · exact h1 p z b (List.mem_cons_of_mem _ hb)
    · rw [z]; exact h2 a List.mem_cons_self b (List.mem_cons_of_mem _ hb)
/-- the gaps -/
def gapsOf (xs : List (Int × Int)) : List Int := xs.flatMap fun b => (xs.filter fun a => decide (0 ≤ a.1 - b.1 ∧ a.1 - b.1 < 1000000000)).map fun a => a.1 - b.1
theorem gap_mem {xs : List (Int × Int)} {g : Int} : g ∈ gapsOf xs ↔ (0 ≤ g ∧ g < 1000000000) ∧ ∃ b ∈ xs, ∃ a ∈ xs, g = a.1 - b.1 := by
  unfold gapsOf
  simp only [List.mem_flatMap, List.mem_map, List.mem_filter, decide_eq_true_eq]
  constructor
  · rintro ⟨b, hb, a, ⟨ha, h1⟩, rfl⟩; exact ⟨h1, b, hb, a, ha, rfl⟩
  · rintro ⟨h1, b, hb, a, ha, rfl⟩; exact ⟨b, hb, a, ⟨ha, h1⟩, rfl⟩
theorem best_gap : ∀ (gs : List Int) (l : Int), (∃ g ∈ gs, g < l) → ∃ g ∈ gs, g < l ∧ ∀ x ∈ gs, x < l → x ≤ g
  | [], l, h => by obtain ⟨g, hg, _⟩ := h; simp at hg
  | y :: gs, l, h => by
    by_cases hr : ∃ g ∈ gs, g < l
    · obtain ⟨g, hg, h1, h2⟩ := best_gap gs l hr
      by_cases hy : y < l ∧ g < y
      · refine ⟨y, List.mem_cons_self, hy.1, fun x hx hl => ?_⟩
        rcases List.mem_cons.mp hx with rfl | hx
        · omega
        · have := h2 x hx hl; omega
      · refine ⟨g, List.mem_cons_of_mem _ hg, h1, fun x hx hl => ?_⟩
        rcases List.mem_cons.mp hx with rfl | hx
        · omega
        · exact h2 x hx hl
    · obtain ⟨g, hg, h1⟩ := h
      rcases List.mem_cons.mp hg with rfl | hg
      · refine ⟨g, List.mem_cons_self, h1, fun x hx hl => ?_⟩
        rcases List.mem_cons.mp hx with rfl | hx
        · omega
        · exact absurd ⟨x, hx, hl⟩ hr
      · exact absurd ⟨g, hg, h1⟩ hr
/-- a span at which somebody gets none is no less than a gap and one at which somebody does -/
theorem span_gap (c : Int) {l : Int} (h1 : 1 ≤ l) (h2 : l ≤ 1000000000) {xs : List (Int × Int)} (hb : none ∈ (runA c l [] xs).1) : ∃ g ∈ gapsOf xs, g + 1 ≤ l ∧ none ∈ (runA c (g + 1) [] xs).1 := by
  have hx : ∃ a, a ∈ xs := by
    cases xs with
    | nil => simp [runA] at hb
    | cons a xs => exact ⟨a, List.mem_cons_self⟩
  obtain ⟨a0, ha0⟩ := hx
  obtain ⟨g, hg, h3, h4⟩ := best_gap (gapsOf xs) l ⟨0, gap_mem.mpr ⟨⟨by omega, by omega⟩, a0, ha0, a0, ha0, by omega⟩, by omega⟩
  refine ⟨g, hg, by omega, ?_⟩
  have hg0 := (gap_mem.mp hg).1
  rw [← run_span c (l := l) (l' := g + 1) xs [] (by simp) fun b hb a ha => ?_]
  · exact hb
  · constructor
    · intro z
      by_cases hn : a.1 < b.1
      · omega
      · have := h4 (a.1 - b.1) (gap_mem.mpr ⟨⟨by omega, by omega⟩, b, hb, a, ha, rfl⟩) (by omega)
        omega
    · intro z; omega
end Ev

set_option Elab.async false
set_option linter.all false
set_option maxRecDepth 100000
set_option maxHeartbeats 1000000
/-! ## marks lent again: the table's law, shifts -/
namespace Ev
open PySem L2 Pf
theorem runA_take (c l : Int) : ∀ (xs : List (Int × Int)) (R : Tab) (k : Nat), (runA c l R (xs.take k)).1 = (runA c l R xs).1.take k
  | [], R, k => by simp [runA]
  | a :: xs, R, 0 => by simp [runA]
  | a :: xs, R, k + 1 => by simp [runA, runA_take c l xs _ k]
theorem runL_snoc (c l : Int) (a : Int × Int) : ∀ (xs : List (Int × Int)) (L : Tab), runL c l L (xs ++ [a]) = ((runL c l L xs).1 ++ [(askL c l (runL c l L xs).2 a.1 a.2).1], (askL c l (runL c l L xs).2 a.1 a.2).2)
  | [], L => by simp [runL]
  | b :: xs, L => by simp [runL, runL_snoc c l a xs]
/-- what is true of the law's table -/
structure Jt (c l t : Int) (L : Tab) : Prop where
  nd : (keys L).Nodup
  rg : ∀ m ∈ keys L, 0 ≤ m ∧ m < c
  tm : ∀ p ∈ L, p.2.2 ≤ t
  one : ∀ t', t ≤ t' → ∀ m m', m ∈ thereL l t' L → m' ∈ thereL l t' L → mk0 L m = mk0 L m' → m = m'
theorem there_iff {l t : Int} {L : Tab} {m : Int} : m ∈ thereL l t L ↔ ∃ v, tlook L m = some v ∧ t < v.2 + l := by
  rw [mem_there]
  unfold lv
  cases tlook L m with
  | none => simp
  | some v => simp [Option.filter]
theorem there_nd {l t : Int} {L : Tab} (nd : (keys L).Nodup) : (thereL l t L).Nodup := List.filter_sublist.nodup (srt_nd nd)
theorem there_keys {l t m : Int} {L : Tab} (h : m ∈ thereL l t L) : m ∈ keys L := by
  unfold thereL at h
  exact mem_srt.mp (List.mem_filter.mp h).1
theorem there_put {l t m n : Int} {L : Tab} {v : Int × Int} : n ∈ thereL l t (tput L m v) ↔ (n = m ∧ t < v.2 + l) ∨ (n ≠ m ∧ n ∈ thereL l t L) := by
  rw [there_iff, there_iff]
  simp only [tlook_tput]
  by_cases h : n = m
  · simp [h]
  · simp [h]
theorem mk0_put {m n : Int} {L : Tab} {v : Int × Int} : mk0 (tput L m v) n = if n = m then v.1 else mk0 L n := by
  unfold mk0
  rw [tlook_tput]
  by_cases h : n = m
  · simp [h]
  · simp [h]
theorem own_iff {l t k m : Int} {L : Tab} : m ∈ ownL l t k L ↔ m ∈ thereL l t L ∧ mk0 L m = k := by
  unfold ownL; rw [List.mem_filter]; simp
theorem free_iff {c l t m : Int} {L : Tab} : m ∈ freeL c l t L ↔ (0 ≤ m ∧ m < c) ∧ m ∉ thereL l t L := by
  unfold freeL; rw [List.mem_filter, rng_mem]; simp
theorem Jt.nil (c l t : Int) : Jt c l t [] := ⟨by simp [keys], by simp [keys], by simp, fun t' _ m m' h => by
  rw [there_iff] at h
  obtain ⟨v, h, _⟩ := h
  simp [tlook] at h⟩
theorem tput_mem {R : Tab} {m : Int} {v : Int × Int} {p : Int × Int × Int} (h : p ∈ tput R m v) : p ∈ R ∨ p.2 = v := tput_vals h
theorem Jt.step {c l t t' k : Int} {L : Tab} (hl : 1 ≤ l) (J : Jt c l t L) (ht : t ≤ t') : Jt c l t' (askL c l L t' k).2 ∧
    (∀ m, (askL c l L t' k).1 = some m → m ∈ thereL l t' (askL c l L t' k).2 ∧ mk0 (askL c l L t' k).2 m = k) ∧
    ((askL c l L t' k).1 = none → (∀ m, 0 ≤ m ∧ m < c → m ∈ thereL l t' (askL c l L t' k).2) ∧ ∀ m ∈ thereL l t' (askL c l L t' k).2, mk0 (askL c l L t' k).2 m ≠ k) := by
  have put : ∀ m, (0 ≤ m ∧ m < c) → (∀ n, n ∈ thereL l t' L → n ≠ m → mk0 L n ≠ k) → Jt c l t' (tput L m (k, t')) := fun m hm ho => by
    refine ⟨nodup_tput J.nd _ _, fun n hn => ?_, fun p hp => ?_, fun u hu n n' h1 h2 e => ?_⟩
    · rw [keys_tput] at hn
      split at hn
      · exact J.rg n hn
      · rcases List.mem_append.mp hn with z | z
        · exact J.rg n z
        · simp at z; subst z; exact hm
    · rcases tput_vals hp with z | z
      · have := J.tm p z; omega
      · rw [z]; exact Int.le_refl _
    · have down : ∀ n, n ∈ thereL l u L → n ∈ thereL l t' L := fun n h => by
        rw [there_iff] at h ⊢
        obtain ⟨v, h1, h2⟩ := h
        exact ⟨v, h1, by omega⟩
      rw [there_put] at h1 h2
      rw [mk0_put, mk0_put] at e
      rcases h1 with ⟨rfl, _⟩ | ⟨h1, h1'⟩ <;> rcases h2 with ⟨rfl, _⟩ | ⟨h2, h2'⟩
      · rfl
      · simp only [if_true, h2, if_false] at e
        exact absurd e.symm (ho n' (down n' h2') h2)
      · simp only [if_true, h1, if_false] at e
        exact absurd e (ho n (down n h1') h1)
      · simp only [h1, h2, if_false] at e
        exact J.one u (by omega) n n' h1' h2' e
  have liv : ∀ m, m ∈ thereL l t' (tput L m (k, t')) := fun m => there_put.mpr (.inl ⟨rfl, by dsimp only; omega⟩)
  unfold askL
  cases ho : ownL l t' k L with
  | cons m os =>
    have hm : m ∈ ownL l t' k L := by rw [ho]; exact List.mem_cons_self
    rw [own_iff] at hm
    have hp : pickM (m :: os) (freeL c l t' L) = some m := rfl
    rw [hp]
    dsimp only
    refine ⟨put m (J.rg m (there_keys hm.1)) fun n hn hne he => hne (J.one t' ht n m hn hm.1 (he.trans hm.2.symm)), fun n hn => ?_, fun z => by cases z⟩
    cases hn
    exact ⟨liv m, by rw [mk0_put]; simp⟩
  | nil =>
    have no : ∀ n, n ∈ thereL l t' L → mk0 L n ≠ k := fun n hn he => by
      have : n ∈ ownL l t' k L := own_iff.mpr ⟨hn, he⟩
      rw [ho] at this; simp at this
    cases hf : freeL c l t' L with
    | cons m fs =>
      have hm : m ∈ freeL c l t' L := by rw [hf]; exact List.mem_cons_self
      rw [free_iff] at hm
      have hp : pickM [] (m :: fs) = some m := rfl
      rw [hp]
      dsimp only
      refine ⟨put m hm.1 fun n hn _ => no n hn, fun n hn => ?_, fun z => by cases z⟩
      cases hn
      exact ⟨liv m, by rw [mk0_put]; simp⟩
    | nil =>
      have hp : pickM ([] : List Int) [] = none := rfl
      rw [hp]
      dsimp only
      refine ⟨⟨J.nd, J.rg, fun p hp => by have := J.tm p hp; omega, fun u hu => J.one u (by omega)⟩, fun m z => (by cases z), fun _ => ⟨fun m hm => ?_, no⟩⟩
      refine Classical.byContradiction fun z => ?_
      have : m ∈ freeL c l t' L := free_iff.mpr ⟨hm, z⟩
      rw [hf] at this; simp at this
theorem Jt.le {c l t t' : Int} {L : Tab} (J : Jt c l t L) (h : t ≤ t') : Jt c l t' L := ⟨J.nd, J.rg, fun p hp => by have := J.tm p hp; omega, fun u hu => J.one u (by omega)⟩
theorem runL_J {c l : Int} (hl : 1 ≤ l) : ∀ (xs : List (Int × Int)) (t u : Int) (L : Tab), Jt c l t L → Asc t xs → t ≤ u → (∀ a ∈ xs, a.1 ≤ u) → Jt c l u (runL c l L xs).2
  | [], t, u, L, J, _, h, _ => J.le h
  | a :: xs, t, u, L, J, ⟨h1, h2⟩, h, hu => by
    simp only [runL]
    exact runL_J hl xs a.1 u _ (J.step hl h1).1 h2 (hu a List.mem_cons_self) fun b hb => hu b (List.mem_cons_of_mem _ hb)
/-- one ask more -/
theorem ask_more {c l : Int} (hl : 1 ≤ l) {xs : List (Int × Int)} (asc : Asc 0 xs) {k : Nat} {a : Int × Int} (ha : xs[k]? = some a) :
    ∃ m : Option Int, (runL c l [] xs).1[k]? = some m ∧ Jt c l a.1 (runL c l [] (xs.take (k + 1))).2 ∧
    (∀ n, m = some n → n ∈ thereL l a.1 (runL c l [] (xs.take (k + 1))).2 ∧ mk0 (runL c l [] (xs.take (k + 1))).2 n = a.2) ∧
    (m = none → (∀ n, 0 ≤ n ∧ n < c → n ∈ thereL l a.1 (runL c l [] (xs.take (k + 1))).2) ∧ ∀ n ∈ thereL l a.1 (runL c l [] (xs.take (k + 1))).2, mk0 (runL c l [] (xs.take (k + 1))).2 n ≠ a.2) := by
  have hk := (List.getElem?_eq_some_iff.mp ha).1
  have et : xs.take (k + 1) = xs.take k ++ [a] := by
    rw [List.take_add_one, ha]; rfl
  have asc_le : ∀ (xs : List (Int × Int)) (t : Int) (k : Nat) (a : Int × Int), Asc t xs → xs[k]? = some a → t ≤ a.1 ∧ Asc t (xs.take k) ∧ ∀ b ∈ xs.take k, b.1 ≤ a.1 := by
    intro xs
    induction xs with
    | nil => intro t k a _ h; simp at h
    | cons b xs ih =>
      intro t k a ⟨h1, h2⟩ h
      cases k with
      | zero => simp at h; subst h; exact ⟨h1, trivial, by simp⟩
      | succ k =>
        obtain ⟨i1, i2, i3⟩ := ih b.1 k a h2 (by simpa using h)
        refine ⟨by omega, ⟨h1, i2⟩, fun d hd => ?_⟩
        rw [List.take_succ_cons] at hd
        rcases List.mem_cons.mp hd with rfl | hd
        · exact i1
        · exact i3 d hd
  obtain ⟨h0, h1, h2⟩ := asc_le xs 0 k a asc ha
  have J := runL_J hl (xs.take k) 0 a.1 [] (Jt.nil c l 0) h1 h0 h2
  obtain ⟨s1, s2, s3⟩ := J.step (k := a.2) hl (Int.le_refl _)
  rw [et, runL_snoc]
  refine ⟨(askL c l (runL c l [] (xs.take k)).2 a.1 a.2).1, ?_, s1, s2, s3⟩
  have pre : ∀ (xs : List (Int × Int)) (L : Tab) (k : Nat), (runL c l L (xs.take k)).1 = (runL c l L xs).1.take k := by
    intro xs
    induction xs with
    | nil => intro L k; simp [runL]
    | cons b xs ih =>
      intro L k
      cases k with
      | zero => simp [runL]
      | succ k => simp [runL, ih]
  have e := pre xs [] (k + 1)
  rw [et, runL_snoc] at e
  have lk : (runL c l [] (xs.take k)).1.length = k := by rw [runL_len, List.length_take]; omega
  have e2 : ((runL c l [] xs).1.take (k + 1))[k]? = some (askL c l (runL c l [] (xs.take k)).2 a.1 a.2).1 := by
    rw [← e]
    dsimp only
    rw [List.getElem?_append_right (by omega), lk, Nat.sub_self]; rfl
  rw [List.getElem?_take] at e2
  simpa using e2
/-! ### shifts -/
def shT (s : Int) (R : Tab) : Tab := R.map fun p => (p.1, p.2.1, p.2.2 + s)
def shA (s : Int) (xs : List (Int × Int)) : List (Int × Int) := xs.map fun a => (a.1 + s, a.2)
theorem sh_keys (s : Int) (R : Tab) : keys (shT s R) = keys R := by unfold keys shT; rw [List.map_map]; rfl
theorem sh_look (s : Int) (m : Int) : ∀ R : Tab, tlook (shT s R) m = (tlook R m).map fun v => (v.1, v.2 + s)
  | [] => rfl
  | p :: R => by
    have ih := sh_look s m R
    unfold tlook shT at ih ⊢
    rw [List.map_cons, List.find?_cons, List.find?_cons]
    by_cases h : p.1 = m
    · simp [h]
    · simp only [h, decide_false]; exact ih
theorem sh_mk0 (s : Int) (R : Tab) (m : Int) : mk0 (shT s R) m = mk0 R m := by
  unfold mk0; rw [sh_look]; cases tlook R m <;> rfl
theorem sh_live (s l t : Int) (R : Tab) : liveT l (t + s) (shT s R) = shT s (liveT l t R) := by
  unfold liveT shT
  rw [List.filter_map]
  congr 1
  refine List.filter_congr fun p _ => ?_
  simp only [Function.comp, decide_eq_decide]
  omega
theorem sh_put (s : Int) (R : Tab) (m k t : Int) : tput (shT s R) m (k, t + s) = shT s (tput R m (k, t)) := by
  unfold tput
  have e : ((shT s R).any fun p => decide (p.1 = m)) = R.any fun p => decide (p.1 = m) := by unfold shT; rw [List.any_map]; rfl
  rw [e]
  split
  · unfold shT
    rw [List.map_map, List.map_map]
    refine List.map_congr_left fun p _ => ?_
    simp only [Function.comp]
    split <;> rfl
  · unfold shT; simp
theorem run_shift (c l s : Int) : ∀ (xs : List (Int × Int)) (R : Tab), (runA c l (shT s R) (shA s xs)).1 = (runA c l R xs).1
  | [], R => rfl
  | a :: xs, R => by
    have st : askP c l (shT s R) (a.1 + s) a.2 = ((askP c l R a.1 a.2).1, shT s (askP c l R a.1 a.2).2) := by
      unfold askP
      dsimp only
      rw [sh_live]
      have eo : ownT (shT s (liveT l a.1 R)) a.2 = ownT (liveT l a.1 R) a.2 := by
        unfold ownT
        rw [sh_keys]
        exact List.filter_congr fun m _ => by rw [sh_mk0]
      have ef : freeT c (shT s (liveT l a.1 R)) = freeT c (liveT l a.1 R) := by
        unfold freeT
        exact List.filter_congr fun m _ => by rw [sh_look]; cases tlook (liveT l a.1 R) m <;> rfl
      rw [eo, ef]
      cases pickM (ownT (liveT l a.1 R) a.2) (freeT c (liveT l a.1 R)) with
      | none => rfl
      | some m => dsimp only; rw [sh_put]
    show (runA c l (shT s R) ((a.1 + s, a.2) :: shA s xs)).1 = _
    simp only [runA]
    rw [st]
    dsimp only
    rw [run_shift c l s xs]
theorem gaps_shift (s : Int) (xs : List (Int × Int)) : gapsOf (shA s xs) = gapsOf xs := by
  unfold gapsOf shA
  rw [List.flatMap_map]
  congr 1
  funext b
  rw [List.filter_map, List.map_map]
  have e : ∀ a : Int × Int, a.1 + s - (b.1 + s) = a.1 - b.1 := fun a => by omega
  simp only [Function.comp_def, e]
theorem asc_shift (s : Int) : ∀ (xs : List (Int × Int)) (t : Int), Asc t xs → Asc (t + s) (shA s xs)
  | [], _, _ => trivial
  | a :: xs, t, ⟨h1, h2⟩ => ⟨by dsimp only; omega, asc_shift s xs a.1 h2⟩
end Ev

set_option Elab.async false
set_option linter.all false
set_option maxRecDepth 100000
set_option maxHeartbeats 2000000
/-! ## fewest_marks, shortest_length -/
namespace Ev
open PySem L2 Pf
theorem eqv_non (x : Option Int) : PyData.eqv (pd (dO x)) (pd .non) = x.isNone := by cases x <;> simp [dO, pd, PyData.eqv]
theorem in_none (l : List (Option Int)) : cmpE .In .non (.lst (l.map dO)) = some (decide (none ∈ l)) := by
  have h1 : (l.map dO).all (dep 59) = true := by
    rw [List.all_map]
    exact List.all_eq_true.mpr fun x _ => by cases x <;> rfl
  have h2 : ((l.map dO).any fun z => PyData.eqv (pd z) (pd .non)) = decide (none ∈ l) := by
    rw [List.any_map, Bool.eq_iff_iff]
    simp only [List.any_eq_true, Function.comp, eqv_non, decide_eq_true_eq]
    constructor
    · rintro ⟨x, hx, hn⟩
      cases x with
      | none => exact hx
      | some i => cases hn
    · intro h; exact ⟨none, h, rfl⟩
  show inE _ _ = _
  unfold inE
  have d0 : dep 60 .non = true := rfl
  simp only [items, Option.bind_some, d0, h1, Bool.and_self, if_true, h2]
theorem at_is_short (c l : Int) (h0 : 0 ≤ c) (h1 : c ≤ 1000) (xs : List (Int × Int)) (hl : xs.length < 60) (h : Hh) : F_is_short [.int c, .int l, .tup (xs.map dv)] h = .ok (.bl (decide (none ∈ (runA c l [] xs).1))) h := by
  have e1 := at_marks c l h0 h1 xs hl (.tup (xs.map dv)) rfl (by simp [nr, nrs_dv]) []
  have e2 := in_none (runA c l [] xs).1
  refine pure_of (h' := []) (by simp [nrs, nr, nrs_dv]) rfl rfl ?_
  unfold ir_is_short
  simp [startR, semA, e1, on2, e2, ofB]
theorem best_ints (xs : List Int) : bestOk (xs.map D.int) = true := by
  unfold bestOk
  simp only [Bool.and_eq_true, List.all_eq_true]
  refine ⟨⟨⟨fun d hd => ?_, fun d hd => ?_⟩, fun d hd e he => ?_⟩, fun d hd => ?_⟩
  · obtain ⟨x, _, rfl⟩ := List.mem_map.mp hd; rfl
  · obtain ⟨x, _, rfl⟩ := List.mem_map.mp hd; rfl
  · obtain ⟨x, _, rfl⟩ := List.mem_map.mp hd
    obtain ⟨y, _, rfl⟩ := List.mem_map.mp he
    simp [pd, PySem.W.alike]
  · obtain ⟨x, _, rfl⟩ := List.mem_map.mp hd; rfl
theorem dBest_max : ∀ (xs : List Int) (a : Int), dBest true (.int a) (xs.map D.int) = .int (xs.foldl max a)
  | [], a => rfl
  | x :: xs, a => by
    have ih := fun z => dBest_max xs z
    unfold dBest at ih ⊢
    rw [List.map_cons, List.foldl_cons, List.foldl_cons]
    simp only [if_true, pd, PySem.W.dataLt_int, decide_eq_true_eq] at ih ⊢
    by_cases h : a < x
    · rw [if_pos h, ih x, Int.max_eq_right (Int.le_of_lt h)]
    · rw [if_neg h, ih a, Int.max_eq_left (Int.not_lt.mp h)]
/-- the marks, none of them None -/
theorem marks_map : ∀ (l : List (Option Int)), none ∉ l → ∃ ms : List Int, l = ms.map some
  | [], _ => ⟨[], rfl⟩
  | none :: l, h => absurd List.mem_cons_self h
  | some m :: l, h => by
    obtain ⟨ms, e⟩ := marks_map l fun z => h (List.mem_cons_of_mem _ z)
    exact ⟨m :: ms, by rw [e]; rfl⟩
theorem topM_map (ms : List Int) : topM (ms.map some) = (ms.map (· + 1)).foldl max 0 := by
  unfold topM
  rw [List.foldl_map, List.foldl_map]
theorem at_fewest (l : Int) (h3 : 1 ≤ l) (h4 : l ≤ 1000000000) (xs : List (Int × Int)) (ok : OkA xs) (h : Hh) : F_fewest_marks [.int l, .tup (xs.map dv)] h = .ok (.int (topM (runA 40 l [] xs).1)) h := by
  have hl := ok.len
  have e1 := at_check_count l 1000000000 [] h3 h4
  have e2 := at_check_asks xs ok.asc ok.len ok.rng []
  have e3 := at_marks 40 l (by omega) (by omega) xs (by omega) (.tup (xs.map dv)) rfl (by simp [nr, nrs_dv]) []
  have rm := run_room (C := 40) l xs [] (by simp [keys]) (by simp; omega)
  obtain ⟨ms, em⟩ := marks_map _ rm
  have hml : ms.length = xs.length := by
    have := runA_len 40 l xs []
    rw [em] at this; simpa using this
  rw [em] at e3 ⊢
  rw [topM_map]
  have key := lc_map (t := .n 2) (b := semT none) (e := (Xp.bin .Add (Xo.v 2) ((Xp.c (.int 1))).o).sem) (r := [.pl (.int l), .pl (.tup (xs.map dv)), .un]) (h := []) (f := fun m : Int => dO (some m)) (g := fun m => D.int (m + 1)) ms fun m _ => ⟨[.pl (.int l), .pl (.tup (xs.map dv)), .pl (.int m)], rfl, rfl, by simp [on2, binE]⟩
  refine pure_of (h' := []) (by simp [nrs, nr, nrs_dv]) rfl rfl ?_
  have lc : lcSem (Xp.bin .Add (Xo.v 2) ((Xp.c (.int 1))).o) (.n 2) (Ib.seq (Xp.call "marks_of" F_marks_of [(Xp.g "MAX_ASKS" (.int 40)), (Xp.v 0), (Xp.v 1)])) none [("mark", 2)] [.pl (.int l), .pl (.tup (xs.map dv)), .un] [] = .ok (.lst ((ms.map (· + 1)).map D.int)) [] := by
    unfold lcSem
    have it : (Ib.seq (Xp.call "marks_of" F_marks_of [(Xp.g "MAX_ASKS" (.int 40)), (Xp.v 0), (Xp.v 1)])).sem [.pl (.int l), .pl (.tup (xs.map dv)), .un] [] = .ok (ms.map fun m => dO (some m)) [] := by
      have e3' : F_marks_of [.int 40, .int l, .tup (xs.map dv)] [] = .ok (.lst (ms.map fun m => dO (some m))) [] := by
        rw [e3, List.map_map]; rfl
      simp [semA, e3', items]
    rw [it, bind_ok, if_pos (by rw [List.length_map]; show _ ≤ 16777216; omega)]
    have w0 : wipeR [.pl (.int l), .pl (.tup (xs.map dv)), .un] (([("mark", 2)] : List (Str × Nat)).map (·.2)) = [.pl (.int l), .pl (.tup (xs.map dv)), .un] := rfl
    rw [w0, key, List.map_map]; rfl
  have bo := best_ints (0 :: ms.map (· + 1))
  have bm := dBest_max (ms.map (· + 1)) 0
  have hq : (ms.map (· + 1)).length ≤ 40 := by rw [List.length_map]; omega
  generalize ms.map (· + 1) = qs at *
  unfold ir_fewest_marks
  rw [List.map_cons] at bo
  have st0 : startR 3 [.int l, .tup (xs.map dv)] = [.pl (.int l), .pl (.tup (xs.map dv)), .un] := rfl
  rw [st0]
  simp [semA, semS, semB, onL, vws, vw, items, line, e1, e2, lc, on1, bjE, bo, bm, show qs.length + 1 ≤ 16777216 by omega, show qs.length ≤ 16777215 by omega]
/-! ### shortest_length -/
theorem lc2_filt {α β : Type} {t t1 : Tg} {b b1 : Rho → Hh → Res Bool} {it1 : Rho → Hh → Res (List D)} {e : Rho → Hh → Res D} {r : Rho} {h : Hh} {f : α → D} {g : β → D} {ys : List β} {k : α → β → D} {p : α → β → Bool} : ∀ (l : List α) (n : Nat), n + l.length * ys.length ≤ line → (∀ x ∈ l, ∃ r2, t.put (f x) r = some r2 ∧ b r2 h = .ok true h ∧ it1 r2 h = .ok (ys.map g) h ∧ noOw r2 = true ∧ ∀ y ∈ ys, ∃ r3, t1.put (g y) (wipeR r2 (Tg.sl t1)) = some r3 ∧ b1 r3 h = .ok (p x y) h ∧ e r3 h = .ok (k x y) h) →
    lc2Go t b it1 t1 b1 e r n (l.map f) h = .ok (l.flatMap fun x => (ys.filter (p x)).map (k x)) h
  | [], _, _, _ => rfl
  | x :: l, n, hn, hx => by
    obtain ⟨r2, h1, h2, h3, h4, h5⟩ := hx x List.mem_cons_self
    have hn' : n + ys.length + l.length * ys.length ≤ line := by
      rw [List.length_cons, Nat.succ_mul] at hn; omega
    have ih := lc2_filt l (n + ys.length) hn' fun y hy => hx y (List.mem_cons_of_mem _ hy)
    have key := lc_filter (t := t1) (b := b1) (e := e) (r := wipeR r2 (Tg.sl t1)) (h := h) (f := g) (g := k x) (p := p x) ys h5
    have hl : n + ys.length ≤ line := by omega
    rw [List.map_cons, lc2Go, h1]
    dsimp only
    simp only [h2, h3, noX, bind_ok, if_true, h4, List.length_map, hl, true_and, key, ih, List.flatMap_cons]
theorem for_nx' {t : Tg} {b : Rho → Hh → Out} {x : D} {xs : List D} {r r1 r2 : Rho} {h h2 : Hh} (hp : t.put x r = some r1) (hb : b r1 h = .nx r2 h2) : forGo t b (x :: xs) r h = forGo t b xs r2 h2 := by
  simp [forGo, hp, hb]
theorem for_rt' {t : Tg} {b : Rho → Hh → Out} {x d : D} {xs : List D} {r r1 : Rho} {h h2 : Hh} (hp : t.put x r = some r1) (hb : b r1 h = .rt d h2) : forGo t b (x :: xs) r h = .rt d h2 := by
  simp [forGo, hp, hb]
def lens (xs : List (Int × Int)) : List Int := sosI ((gapsOf xs).map (· + 1))
theorem gaps_len (xs : List (Int × Int)) : (gapsOf xs).length ≤ xs.length * xs.length := by
  unfold gapsOf
  have : ∀ (ys : List (Int × Int)), (ys.flatMap fun b => (xs.filter fun a => decide (0 ≤ a.1 - b.1 ∧ a.1 - b.1 < 1000000000)).map fun a => a.1 - b.1).length ≤ ys.length * xs.length := by
    intro ys
    induction ys with
    | nil => simp
    | cons y ys ih =>
      rw [List.flatMap_cons, List.length_append, List.length_map, List.length_cons, Nat.succ_mul]
      have := List.length_filter_le (fun a : Int × Int => decide (0 ≤ a.1 - y.1 ∧ a.1 - y.1 < 1000000000)) xs
      omega
  exact this xs
def shB : List Si := [.s (Sm.ife (Xt.e ((Xp.call "is_short" F_is_short [(Xp.v 0), (Xp.v 3), (Xp.v 1)])).o)
      [.s (Sm.ret (Xp.v 3))]
      []), .kill [3]]
theorem sh_loop (c : Int) (h0 : 0 ≤ c) (h1 : c ≤ 1000) (xs : List (Int × Int)) (hl : xs.length < 60) (gs : D) : ∀ ls : List Int, forGo (.n 3) (semSs shB) (ls.map D.int) [.pl (.int c), .pl (.tup (xs.map dv)), .pl gs, .un, .un, .un, .un, .un, .un] [] = match ls.find? fun l => decide (none ∈ (runA c l [] xs).1) with
    | some l => .rt (.int l) []
    | none => .nx [.pl (.int c), .pl (.tup (xs.map dv)), .pl gs, .un, .un, .un, .un, .un, .un] []
  | [] => rfl
  | l :: ls => by
    have e1 := at_is_short c l h0 h1 xs hl []
    have put : (Tg.n 3).put (.int l) [.pl (.int c), .pl (.tup (xs.map dv)), .pl gs, .un, .un, .un, .un, .un, .un] = some [.pl (.int c), .pl (.tup (xs.map dv)), .pl gs, .pl (.int l), .un, .un, .un, .un, .un] := rfl
    have tr : ∀ (h : Hh) (b : Bool), on1 truE h (.bl b) = some b := fun _ _ => rfl
    rw [List.map_cons, List.find?_cons]
    by_cases q : none ∈ (runA c l [] xs).1
    · rw [decide_eq_true q] at e1 ⊢
      refine for_rt' put ?_
      unfold shB
      simp [semA, e1, tr]
    · rw [decide_eq_false q] at e1 ⊢
      dsimp only
      rw [for_nx' put (r2 := [.pl (.int c), .pl (.tup (xs.map dv)), .pl gs, .un, .un, .un, .un, .un, .un]) (h2 := []) (by unfold shB; simp [semA, e1, tr, killR])]
      exact sh_loop c h0 h1 xs hl gs ls
theorem at_shortest (c : Int) (h1 : 1 ≤ c) (h2 : c ≤ 9) (xs : List (Int × Int)) (ok : OkA xs) (h : Hh) : F_shortest_length [.int c, .tup (xs.map dv)] h = .ok (dO ((lens xs).find? fun l => decide (none ∈ (runA c l [] xs).1))) h := by
  have hl := ok.len
  have e1 := at_check_count c 9 [] h1 h2
  have e2 := at_check_asks xs ok.asc ok.len ok.rng []
  have gl := gaps_len xs
  have gl2 : xs.length * xs.length ≤ 40 * 40 := Nat.mul_le_mul hl hl
  refine pure_of (h' := []) (by simp [nrs, nr, nrs_dv]) rfl (by cases (lens xs).find? _ <;> rfl) ?_
  unfold ir_shortest_length
  have st0 : startR 9 [.int c, .tup (xs.map dv)] = [.pl (.int c), .pl (.tup (xs.map dv)), .un, .un, .un, .un, .un, .un, .un] := rfl
  have key := lc2_filt (t := .tu [.n 4, .n 5]) (t1 := .tu [.n 6, .n 7]) (b := semT none) (b1 := semT (some (Xt.chain .LtE .Lt ((Xp.c (.int 0))).o ((Xp.bin .Sub (Xo.v 6) (Xo.v 4))).o ((Xp.g "MAX_LENGTH" (.int 1000000000))).o))) (it1 := (Ib.seq (Xp.v 1)).sem) (e := (Xp.bin .Sub (Xo.v 6) (Xo.v 4)).sem) (r := [.pl (.int c), .pl (.tup (xs.map dv)), .un, .un, .un, .un, .un, .un, .un]) (h := []) (f := dv) (g := dv) (ys := xs) (k := fun b a => D.int (a.1 - b.1)) (p := fun b a => decide (0 ≤ a.1 - b.1 ∧ a.1 - b.1 < 1000000000)) xs 0 (by show _ ≤ 16777216; omega) fun x _ => by
    refine ⟨[.pl (.int c), .pl (.tup (xs.map dv)), .un, .un, .pl (.int x.1), .pl (.int x.2), .un, .un, .un], rfl, rfl, by simp [items], rfl, fun y _ => ⟨[.pl (.int c), .pl (.tup (xs.map dv)), .un, .un, .pl (.int x.1), .pl (.int x.2), .pl (.int y.1), .pl (.int y.2), .un], rfl, ?_, ?_⟩⟩
    · by_cases q1 : x.1 ≤ y.1
      · by_cases q2 : y.1 - x.1 < 1000000000
        · simp [semT, chainS, on2, binE, q1, q2, cmpE, ltE, toB, ofB]
        · simp [semT, chainS, on2, binE, q1, q2, cmpE, ltE, toB, ofB]
      · simp [semT, chainS, on2, binE, q1, cmpE, ltE, toB, ofB]
    · simp [on2, binE]
  have it0 : (Ib.seq (Xp.v 1)).sem [.pl (.int c), .pl (.tup (xs.map dv)), .un, .un, .un, .un, .un, .un, .un] [] = .ok (xs.map dv) [] := by simp [items]
  have ef : (xs.flatMap fun b => (xs.filter fun a => decide (0 ≤ a.1 - b.1 ∧ a.1 - b.1 < 1000000000)).map fun a => D.int (a.1 - b.1)) = (gapsOf xs).map D.int := by
    unfold gapsOf
    rw [List.map_flatMap]
    congr 1
    funext b
    rw [List.map_map]; rfl
  rw [ef] at key
  have q1 : ∀ f : Rho → Hh → Out, ((Sm.ex (Xp.call "check_count" F_check_count [(Xp.v 0), (Xp.g "MAX_COUNT" (.int 9))])).sem [.pl (.int c), .pl (.tup (xs.map dv)), .un, .un, .un, .un, .un, .un, .un] []).then f = f [.pl (.int c), .pl (.tup (xs.map dv)), .un, .un, .un, .un, .un, .un, .un] [] := fun f => by
    simp [semA, e1]
  have q2 : ∀ f : Rho → Hh → Out, ((Sm.ex (Xp.call "check_asks" F_check_asks [(Xp.v 1)])).sem [.pl (.int c), .pl (.tup (xs.map dv)), .un, .un, .un, .un, .un, .un, .un] []).then f = f [.pl (.int c), .pl (.tup (xs.map dv)), .un, .un, .un, .un, .un, .un, .un] [] := fun f => by
    simp [semA, e2]
  rw [st0, ss_s, q1, ss_s, q2, ss_s, ms_asgLc2]
  unfold lc2Sem
  rw [it0, bind_ok, show ([("begun", 4), ("maker", 5), ("later", 6), ("other", 7)] : List (Str × Nat)).map (·.2) = [4, 5, 6, 7] from rfl]
  have w0 : wipeR [.pl (.int c), .pl (.tup (xs.map dv)), .un, .un, .un, .un, .un, .un, .un] [4, 5, 6, 7] = [.pl (.int c), .pl (.tup (xs.map dv)), .un, .un, .un, .un, .un, .un, .un] := rfl
  rw [w0, key, bind_ok, st_ok]
  show outR ((Out.nx [.pl (.int c), .pl (.tup (xs.map dv)), .pl (.lst ((gapsOf xs).map D.int)), .un, .un, .un, .un, .un, .un] []).then _) = _
  rw [then_nx, ss_s, ms_for]
  have k2 := lc_map (t := .n 8) (b := semT none) (e := (Xp.bin .Add (Xo.v 8) ((Xp.c (.int 1))).o).sem) (r := [.pl (.int c), .pl (.tup (xs.map dv)), .pl (.lst ((gapsOf xs).map D.int)), .un, .un, .un, .un, .un, .un]) (h := []) (f := D.int) (g := fun g => D.int (g + 1)) (gapsOf xs) fun g _ => ⟨[.pl (.int c), .pl (.tup (xs.map dv)), .pl (.lst ((gapsOf xs).map D.int)), .un, .un, .un, .un, .un, .pl (.int g)], rfl, rfl, by simp [on2, binE]⟩
  have lc : lcSem (Xp.bin .Add (Xo.v 8) ((Xp.c (.int 1))).o) (.n 8) (Ib.seq (Xp.v 2)) none [("gap", 8)] [.pl (.int c), .pl (.tup (xs.map dv)), .pl (.lst ((gapsOf xs).map D.int)), .un, .un, .un, .un, .un, .un] [] = .ok (.lst (((gapsOf xs).map (· + 1)).map D.int)) [] := by
    unfold lcSem
    have it : (Ib.seq (Xp.v 2)).sem [.pl (.int c), .pl (.tup (xs.map dv)), .pl (.lst ((gapsOf xs).map D.int)), .un, .un, .un, .un, .un, .un] [] = .ok ((gapsOf xs).map D.int) [] := by simp [items]
    rw [it, bind_ok, if_pos (by rw [List.length_map]; show _ ≤ 16777216; omega)]
    have w1 : wipeR [.pl (.int c), .pl (.tup (xs.map dv)), .pl (.lst ((gapsOf xs).map D.int)), .un, .un, .un, .un, .un, .un] (([("gap", 8)] : List (Str × Nat)).map (·.2)) = [.pl (.int c), .pl (.tup (xs.map dv)), .pl (.lst ((gapsOf xs).map D.int)), .un, .un, .un, .un, .un, .un] := rfl
    rw [w1, k2, List.map_map]; rfl
  have i1 : intsOf1 (((gapsOf xs).map (· + 1)).map D.int) = some ((gapsOf xs).map (· + 1)) := by
    have : ∀ l : List Int, intsOf1 (l.map D.int) = some l := by
      intro l
      induction l with
      | nil => rfl
      | cons x l ih => rw [List.map_cons, intsOf1, ih]; rfl
    exact this _
  have it2 : (Ib.seq (Xp.fz (Xn.sosL ((Xp.fz (Xn.lc (Xp.bin .Add (Xo.v 8) ((Xp.c (.int 1))).o) (.n 8) (Ib.seq (Xp.v 2)) none [("gap", 8)]))).o))).sem [.pl (.int c), .pl (.tup (xs.map dv)), .pl (.lst ((gapsOf xs).map D.int)), .un, .un, .un, .un, .un, .un] [] = .ok ((lens xs).map D.int) [] := by
    have hgl : ((gapsOf xs).map (· + 1)).length < 4000 := by rw [List.length_map]; omega
    simp only [mi_seq, m_fz, m_sosL, mo_o, mn_lc, lc, bind_ok]
    show ((sosDL [] (some (.lst (((gapsOf xs).map (· + 1)).map D.int)))).bind _) = _
    unfold sosDL
    dsimp only
    rw [i1]
    dsimp only
    rw [if_pos hgl]
    rfl
  rw [it2, st_ok]
  show outR ((forGo (.n 3) (semSs shB) _ _ _).then _) = _
  rw [sh_loop c (by omega) (by omega) xs (by omega)]
  cases (lens xs).find? fun l => decide (none ∈ (runA c l [] xs).1) with
  | some l => rfl
  | none => simp [dO]
end Ev

set_option Elab.async false
set_option linter.all false
set_option maxRecDepth 100000
set_option maxHeartbeats 2000000
/-! ## marks lent again: shifts -/
namespace Ev
open PySem L2 Pf
theorem dep_opts (n : Nat) (l : List (Option Int)) : dep (n + 1) (.lst (l.map dO)) = true := by
  simp only [dep, List.all_map]
  exact List.all_eq_true.mpr fun x _ => by cases x <;> simp [dO, dep]
theorem nin_none (l : List (Option Int)) : cmpE .NotIn .non (.lst (l.map dO)) = some (!decide (none ∈ l)) := by
  show (inE _ _).map not = _
  rw [show inE .non (.lst (l.map dO)) = some (decide (none ∈ l)) from in_none l]; rfl
theorem vwt (h : Hh) (l : List D) : vw h (.tup l) = some (.tup l) := rfl
theorem vwl (h : Hh) (l : List D) : vw h (.lst l) = some (.lst l) := rfl
theorem vwO (h : Hh) (x : Option Int) : vw h (dO x) = some (dO x) := by cases x <;> rfl
theorem find_min {p : Int → Bool} : ∀ {l : List Int}, l.Pairwise (· < ·) → ∀ {m : Int}, l.find? p = some m → m ∈ l ∧ p m = true ∧ ∀ x ∈ l, p x = true → m ≤ x
  | [], _, m, h => by simp at h
  | y :: l, pw, m, h => by
    rw [List.pairwise_cons] at pw
    rw [List.find?_cons] at h
    cases q : p y with
    | true =>
      rw [q] at h
      cases h
      refine ⟨List.mem_cons_self, q, fun x hx _ => ?_⟩
      rcases List.mem_cons.mp hx with rfl | hx
      · exact Int.le_refl _
      · exact Int.le_of_lt (pw.1 x hx)
    | false =>
      rw [q] at h
      obtain ⟨h1, h2, h3⟩ := find_min pw.2 h
      refine ⟨List.mem_cons_of_mem _ h1, h2, fun x hx hp => ?_⟩
      rcases List.mem_cons.mp hx with rfl | hx
      · rw [q] at hp; cases hp
      · exact h3 x hx hp
theorem sos_mem {ns : List Int} {x : Int} : x ∈ sosI ns ↔ x ∈ ns := by unfold sosI; rw [mem_srt, nubOf_mem]
theorem sos_pw (ns : List Int) : (sosI ns).Pairwise (· < ·) := by
  have h1 := srt_pw (nubOf ns)
  have h2 := srt_nd (nubOf_nd ns)
  unfold sosI
  exact (List.pairwise_and_iff.mpr ⟨h1, h2⟩).imp fun h => by
    have := h.1; have := h.2; omega
theorem lens_mem {xs : List (Int × Int)} {x : Int} : x ∈ lens xs ↔ ∃ g ∈ gapsOf xs, g + 1 = x := by
  unfold lens; rw [sos_mem, List.mem_map]
/-- the shortest length by which somebody gets none -/
structure Short (c : Int) (xs : List (Int × Int)) (r : Option Int) : Prop where
  some_ : ∀ s, r = some s → (1 ≤ s ∧ s ≤ 1000000000) ∧ none ∈ (runA c s [] xs).1 ∧ (1 < s → none ∉ (runA c (s - 1) [] xs).1)
  none_ : r = none → ∀ l, 1 ≤ l → l ≤ 1000000000 → none ∉ (runA c l [] xs).1
theorem short_of (c : Int) (xs : List (Int × Int)) : Short c xs ((lens xs).find? fun l => decide (none ∈ (runA c l [] xs).1)) := by
  constructor
  · intro s hs
    obtain ⟨h1, h2, h3⟩ := find_min (sos_pw _) hs
    obtain ⟨g, hg, e⟩ := lens_mem.mp h1
    have hr := (gap_mem.mp hg).1
    refine ⟨by omega, of_decide_eq_true h2, fun h1s z => ?_⟩
    obtain ⟨g', hg', h4, h5⟩ := span_gap c (l := s - 1) (by omega) (by omega) z
    have := h3 (g' + 1) (lens_mem.mpr ⟨g', hg', rfl⟩) (decide_eq_true h5)
    omega
  · intro hn l h1 h2 z
    obtain ⟨g, hg, _, h5⟩ := span_gap c h1 h2 z
    have := List.find?_eq_none.mp hn (g + 1) (lens_mem.mpr ⟨g, hg, rfl⟩)
    exact this (decide_eq_true h5)
theorem run_sh0 (c l s : Int) (xs : List (Int × Int)) : (runA c l [] (shA s xs)).1 = (runA c l [] xs).1 := run_shift c l s xs []
theorem at_late (c l : Int) (h1 : 1 ≤ c) (h2 : c ≤ 9) (h3 : 1 ≤ l) (h4 : l ≤ 1000000000) (xs : List (Int × Int)) (ok : OkA xs) (hb : ∀ a ∈ xs, a.1 ≤ 100000000000000) (o : D) (ro : Row o) : ∃ o', Row o' ∧ F__law_are_late [.ref 0, .int c, .int l, .tup (xs.map dv)] [o] = .ok (.bl true) [o'] := by
  obtain ⟨v, o1, r1, hv, e1⟩ := at_taken 99 (by omega) (by omega) o ro
  have hl := ok.len
  have e2 := at_lent c l h1 h2 h3 h4 xs ok [o]
  have e3 := at_fewest l h3 h4 xs ok [o]
  generalize hs : 1000000000 * (1 + (v : Int)) = s at *
  have hs0 : 0 ≤ s ∧ s ≤ 99000000000 := by omega
  have okm : OkA (shA s xs) := ⟨(asc_shift s xs 0 ok.asc).le (by omega), by unfold shA; rw [List.length_map]; exact hl, fun a ha => by
    unfold shA at ha
    obtain ⟨b, hb', rfl⟩ := List.mem_map.mp ha
    have q1 := ok.rng b hb'
    have q2 := hb b hb'
    exact ⟨by dsimp only; omega, q1.2.1, q1.2.2⟩⟩
  have e4 := at_lent c l h1 h2 h3 h4 (shA s xs) okm [o1]
  have e5 := at_fewest l h3 h4 (shA s xs) okm [o1]
  have e6 := at_shortest c h1 h2 xs ok [o1]
  have e7 := at_shortest c h1 h2 (shA s xs) okm [o1]
  have eq7 : ((lens (shA s xs)).find? fun l => decide (none ∈ (runA c l [] (shA s xs)).1)) = (lens xs).find? fun l => decide (none ∈ (runA c l [] xs).1) := by
    unfold lens
    rw [gaps_shift]
    simp only [run_sh0]
  rw [run_sh0] at e4 e5
  rw [eq7] at e7
  have sh := short_of c xs
  generalize ((lens xs).find? fun l => decide (none ∈ (runA c l [] xs).1)) = r at *
  have nm := ne_same (dep_opts 59 (runA c l [] xs).1)
  have nr' := ne_same (d := dO r) (by cases r <;> rfl)
  have im := in_none (runA c l [] xs).1
  have nf : ∀ z : Int, cmpE .NotEq (.int z) (.int z) = some false := fun z => by simp [cmp_ne_int]
  refine ⟨o1, r1, ?_⟩
  refine row_of (h := [o]) (i := 0) (h' := []) rfl ro.nr (by simp [nrs, nr, nrs_dv]) rfl rfl r1.nr ?_
  have st0 : startR 11 [.ref 0, .int c, .int l, .tup (xs.map dv)] = [.pl (.ref 0), .pl (.int c), .pl (.int l), .pl (.tup (xs.map dv)), .un, .un, .un, .un, .un, .un, .un] := rfl
  have q1 : ∀ f : Rho → Hh → Out, ((Sm.par [7, 8] [.inl (Xp.call "lent" F_lent [(Xp.v 1), (Xp.v 2), (Xp.v 3)]), .inl (Xp.call "fewest_marks" F_fewest_marks [(Xp.v 2), (Xp.v 3)])]).sem [.pl (.ref 0), .pl (.int c), .pl (.int l), .pl (.tup (xs.map dv)), .un, .un, .un, .un, .un, .un, .un] [o]).then f = f [.pl (.ref 0), .pl (.int c), .pl (.int l), .pl (.tup (xs.map dv)), .un, .un, .un, .pl (.lst ((runA c l [] xs).1.map dO)), .pl (.int (topM (runA 40 l [] xs).1)), .un, .un] [o] := fun f => by
    simp [semX, Xa.sem, semA, e2, e3, setsX, slOf]
  generalize hM : (D.lst ((runA c l [] xs).1.map dO)) = M at *
  generalize topM (runA 40 l [] xs).1 = fw at *
  have q2 : ∀ f : Rho → Hh → Out, ((Sm.asg (.n 4) (Xp.bin .Mult ((Xp.bin .Pow ((Xp.c (.int 10))).o ((Xp.c (.int 9))).o)).o ((Xp.bin .Add ((Xp.c (.int 1))).o ((Xp.call "_law_taken" F__law_taken [(Xp.v 0), (Xp.c (.int 99))])).o)).o)).sem [.pl (.ref 0), .pl (.int c), .pl (.int l), .pl (.tup (xs.map dv)), .un, .un, .un, .pl M, .pl (.int fw), .un, .un] [o]).then f = f [.pl (.ref 0), .pl (.int c), .pl (.int l), .pl (.tup (xs.map dv)), .pl (.int s), .un, .un, .pl M, .pl (.int fw), .un, .un] [o1] := fun f => by
    simp [semA, on2, binE, powOk, mulOk, e1, Tg.put, hs]
  have key := lc_map (t := .tu [.n 9, .n 10]) (b := semT none) (e := (Xp.tup [(Xp.bin .Add (Xo.v 9) (Xo.v 4)), (Xp.v 10)]).sem) (r := [.pl (.ref 0), .pl (.int c), .pl (.int l), .pl (.tup (xs.map dv)), .pl (.int s), .un, .un, .pl M, .pl (.int fw), .un, .un]) (h := [o1]) (f := dv) (g := fun a => dv (a.1 + s, a.2)) xs fun a _ => ⟨[.pl (.ref 0), .pl (.int c), .pl (.int l), .pl (.tup (xs.map dv)), .pl (.int s), .un, .un, .pl M, .pl (.int fw), .pl (.int a.1), .pl (.int a.2)], rfl, rfl, by simp [semA, on2, binE, line, dv]⟩
  have lc : lcSem (Xp.tup [(Xp.bin .Add (Xo.v 9) (Xo.v 4)), (Xp.v 10)]) (.tu [(.n 9), (.n 10)]) (Ib.seq (Xp.v 3)) none [("_law_time", 9), ("_law_maker", 10)] [.pl (.ref 0), .pl (.int c), .pl (.int l), .pl (.tup (xs.map dv)), .pl (.int s), .un, .un, .pl M, .pl (.int fw), .un, .un] [o1] = .ok (.lst ((shA s xs).map dv)) [o1] := by
    unfold lcSem
    have it : (Ib.seq (Xp.v 3)).sem [.pl (.ref 0), .pl (.int c), .pl (.int l), .pl (.tup (xs.map dv)), .pl (.int s), .un, .un, .pl M, .pl (.int fw), .un, .un] [o1] = .ok (xs.map dv) [o1] := by simp [items]
    rw [it, bind_ok, if_pos (by rw [List.length_map]; show _ ≤ 16777216; omega)]
    have w0 : wipeR [.pl (.ref 0), .pl (.int c), .pl (.int l), .pl (.tup (xs.map dv)), .pl (.int s), .un, .un, .pl M, .pl (.int fw), .un, .un] (([("_law_time", 9), ("_law_maker", 10)] : List (Str × Nat)).map (·.2)) = [.pl (.ref 0), .pl (.int c), .pl (.int l), .pl (.tup (xs.map dv)), .pl (.int s), .un, .un, .pl M, .pl (.int fw), .un, .un] := rfl
    rw [w0, key]
    unfold shA
    rw [List.map_map]; rfl
  have hls : (shA s xs).length ≤ 16777216 := by unfold shA; rw [List.length_map]; omega
  have q3 : ∀ f : Rho → Hh → Out, ((Sm.asg (.n 5) (Xp.bi .tuple [((Xp.fz (Xn.lc (Xp.tup [(Xp.bin .Add (Xo.v 9) (Xo.v 4)), (Xp.v 10)]) (.tu [(.n 9), (.n 10)]) (Ib.seq (Xp.v 3)) none [("_law_time", 9), ("_law_maker", 10)]))).o])).sem [.pl (.ref 0), .pl (.int c), .pl (.int l), .pl (.tup (xs.map dv)), .pl (.int s), .un, .un, .pl M, .pl (.int fw), .un, .un] [o1]).then f = f [.pl (.ref 0), .pl (.int c), .pl (.int l), .pl (.tup (xs.map dv)), .pl (.int s), .pl (.tup ((shA s xs).map dv)), .un, .pl M, .pl (.int fw), .un, .un] [o1] := fun f => by
    simp [semB, onL, vws, vwl, lc, biE, items, line, hls, Tg.put]
  have vwM : ∀ h, vw h M = some M := fun h => by rw [← hM]; rfl
  generalize (shA s xs).map dv = ys at *
  unfold ir__law_are_late
  rw [st0, ss_s, q1, ss_s, q2, ss_s, q3]
  have n1 := nf fw
  cases r with
  | none =>
    have hn := sh.none_ rfl l h3 h4
    rw [decide_eq_false hn] at im
    have nn : cmpE .NotEq .non .non = some false := ne_same rfl
    simp [semA, e4, e5, e6, e7, on2, vwM, vwO, nm, n1, nn, dO, isNonD, Tg.put, im]
  | some x =>
    obtain ⟨hx, hin, hpr⟩ := sh.some_ x rfl
    have e8 := at_lent c x h1 h2 hx.1 hx.2 xs ok [o1]
    have ni := nin_none (runA c x [] xs).1
    rw [decide_eq_true hin] at ni
    have nn := nf x
    by_cases hx1 : 1 < x
    · have e9 := at_lent c (x - 1) h1 h2 (by omega) (by omega) xs ok [o1]
      have i9 := in_none (runA c (x - 1) [] xs).1
      rw [decide_eq_false (hpr hx1)] at i9
      have g1 : cmpE .Gt (.int x) (.int 1) = some true := by simp [cmpE, ltE, hx1]
      simp [semA, e4, e5, e6, e7, e8, e9, on2, vwM, vwO, vwl, nm, n1, nn, dO, isNonD, Tg.put, ni, i9, g1, binE]
    · have g1 : cmpE .Gt (.int x) (.int 1) = some false := by simp [cmpE, ltE]; omega
      simp [semA, e4, e5, e6, e7, e8, on2, vwM, vwO, vwl, nm, n1, nn, dO, isNonD, Tg.put, ni, g1]
end Ev

set_option Elab.async false
set_option linter.all false
set_option maxRecDepth 100000
set_option maxHeartbeats 2000000
/-! ## marks lent again: ask by ask -/
namespace Ev
open PySem L2 Pf
theorem cut_to' (l : List D) (n : Nat) : cutD l none (some (n : Int)) = l.take n := by
  unfold cutD
  rw [HT.sIx_nat, HT.sIx_none]
  simp [List.take_eq_take_iff]
theorem eqv_dv (a b : Int × Int) : PyData.eqv (pd (dv a)) (pd (dv b)) = decide (a = b) := by
  obtain ⟨a1, a2⟩ := a
  obtain ⟨b1, b2⟩ := b
  have bi : ∀ x y : Int, (x == y) = decide (x = y) := fun x y => by by_cases h : x = y <;> simp [h]
  rw [Bool.eq_iff_iff]
  simp [dv, pd, pds, PyData.eqv, PyData.eqvAll, bi]
theorem nin_dv (a : Int × Int) (l : List (Int × Int)) : cmpE .NotIn (dv a) (.lst (l.map dv)) = some (!decide (a ∈ l)) := by
  have h1 : (l.map dv).all (dep 59) = true := by
    rw [List.all_map]
    exact List.all_eq_true.mpr fun x _ => rfl
  have h2 : ((l.map dv).any fun z => PyData.eqv (pd z) (pd (dv a))) = decide (a ∈ l) := by
    rw [List.any_map, Bool.eq_iff_iff]
    simp only [List.any_eq_true, Function.comp, eqv_dv, decide_eq_true_eq]
    constructor
    · rintro ⟨x, hx, rfl⟩; exact hx
    · intro h; exact ⟨a, h, rfl⟩
  have d0 : dep 60 (dv a) = true := rfl
  show (inE _ _).map not = _
  unfold inE
  simp only [items, Option.bind_some, d0, h1, Bool.and_self, if_true, h2]
  rfl
theorem nin_any (d : D) (hd : dep 60 d = true) (l : List (Int × Int)) : ∃ b, cmpE .NotIn d (.lst (l.map dv)) = some b := by
  have h1 : (l.map dv).all (dep 59) = true := by
    rw [List.all_map]
    exact List.all_eq_true.mpr fun x _ => rfl
  refine ⟨!((l.map dv).any fun z => PyData.eqv (pd z) (pd d)), ?_⟩
  show (inE _ _).map not = _
  unfold inE
  simp only [items, Option.bind_some, hd, h1, Bool.and_self, if_true, Option.map_some]
theorem in_int (k : Int) (l : List Int) : cmpE .In (.int k) (.lst (l.map D.int)) = some (decide (k ∈ l)) := by
  have h1 : (l.map D.int).all (dep 59) = true := by rw [List.all_map]; exact List.all_eq_true.mpr fun _ _ => rfl
  have h2 : ((l.map D.int).any fun z => PyData.eqv (pd z) (pd (.int k))) = decide (k ∈ l) := by
    have bi : ∀ x y : Int, (x == y) = decide (x = y) := fun x y => by by_cases h : x = y <;> simp [h]
    rw [List.any_map, Bool.eq_iff_iff]
    simp [List.any_eq_true, Function.comp, pd, PyData.eqv, bi]
  have d0 : dep 60 (.int k) = true := rfl
  show inE _ _ = _
  unfold inE
  simp only [items, Option.bind_some, d0, h1, Bool.and_self, if_true, h2]
theorem ints1 (l : List Int) : intsOf1 (l.map D.int) = some l := by
  induction l with
  | nil => rfl
  | cons x l ih => rw [List.map_cons, intsOf1, ih]; rfl
theorem many_nd {l : List Int} (h : l.Nodup) : manyOf l = l.length := (many_of h fun _ => Iff.rfl).symm
theorem okA_take {xs : List (Int × Int)} (ok : OkA xs) (k : Nat) : OkA (xs.take k) := by
  refine ⟨?_, by rw [List.length_take]; have := ok.len; omega, fun a ha => ok.rng a (List.mem_of_mem_take ha)⟩
  have : ∀ (xs : List (Int × Int)) (t : Int) (k : Nat), Asc t xs → Asc t (xs.take k) := by
    intro xs
    induction xs with
    | nil => intro t k _; simp [Asc]
    | cons a xs ih =>
      intro t k ⟨h1, h2⟩
      cases k with
      | zero => trivial
      | succ k => exact ⟨h1, ih _ k h2⟩
  exact this xs 0 k ok.asc
theorem asc_all : ∀ {xs : List (Int × Int)} {t : Int} {k : Nat} {a : Int × Int}, Asc t xs → xs[k]? = some a → t ≤ a.1 ∧ ∀ b ∈ xs.take (k + 1), b.1 ≤ a.1
  | [], t, k, a, _, h => by simp at h
  | b :: xs, t, 0, a, ⟨h1, h2⟩, h => by
    simp at h; subst h
    exact ⟨h1, fun d hd => by simp at hd; subst hd; exact Int.le_refl _⟩
  | b :: xs, t, k + 1, a, ⟨h1, h2⟩, h => by
    obtain ⟨i1, i2⟩ := asc_all (xs := xs) (k := k) h2 (by simpa using h)
    refine ⟨by omega, fun d hd => ?_⟩
    rw [List.take_succ_cons] at hd
    rcases List.mem_cons.mp hd with rfl | hd
    · exact i1
    · exact i2 d hd
def inB : List Si := [.s (Sm.ife (Xt.cmp .NotEq ((Xp.call "lent" F_lent [(Xp.v 5), (Xp.v 6), (Xp.sl (Xo.v 4) none (some (Xp.v 3)))])).o ((Xp.sl (Xo.v 7) none (some (Xp.v 3)))).o)
        [.s (Sm.ret (Xp.c (.bl false)))]
        []),
       .s (Sm.asg (.tu [(.n 11), (.n 12)]) (Xp.ix (Xo.v 4) (Xo.v 3))),
       .s (Sm.asg (.n 9) (Xp.call "holders" F_holders [(Xp.v 5), (Xp.v 6), (Xp.sl (Xo.v 4) none (some (Xp.bin .Add (Xo.v 3) ((Xp.c (.int 1))).o))), (Xp.v 11)])),
       .s (Sm.ife (Xt.and (Xt.cmp .NotIn ((Xp.tup [(Xp.ix (Xo.v 7) (Xo.v 3)), (Xp.v 12)])).o (Xo.v 9)) (Xt.cmp .IsNot ((Xp.ix (Xo.v 7) (Xo.v 3))).o ((Xp.c .non)).o))
        [.s (Sm.ret (Xp.c (.bl false)))]
        []),
       .s (Sm.ife (Xt.and (Xt.cmp .Is ((Xp.ix (Xo.v 7) (Xo.v 3))).o ((Xp.c .non)).o) (Xt.or (Xt.cmp .NotEq ((Xp.bi .len [(Xo.v 9)])).o (Xo.v 5)) (Xt.cmp .In (Xo.v 12) ((Xp.fz (Xn.lc (Xp.ix (Xo.v 13) ((Xp.c (.int 1))).o) (.n 13) (Ib.seq (Xp.v 9)) none [("_law_one", 13)]))).o)))
        [.s (Sm.ret (Xp.c (.bl false)))]
        []),
       .s (Sm.ife (Xt.or (Xt.cmp .NotEq ((Xp.lensetI ((Xp.fz (Xn.lc (Xp.ix (Xo.v 13) ((Xp.c (.int 0))).o) (.n 13) (Ib.seq (Xp.v 9)) none [("_law_one", 13)]))).o)).o ((Xp.bi .len [(Xo.v 9)])).o) (Xt.cmp .NotEq ((Xp.lensetI ((Xp.fz (Xn.lc (Xp.ix (Xo.v 13) ((Xp.c (.int 1))).o) (.n 13) (Ib.seq (Xp.v 9)) none [("_law_one", 13)]))).o)).o ((Xp.bi .len [(Xo.v 9)])).o))
        [.s (Sm.ret (Xp.c (.bl false)))]
        []), .kill [3, 9, 11, 12]]
def inR (ns : List Int) (s2 s3 : Sl) (xs : List (Int × Int)) (c l : Int) (ms : List (Option Int)) (fw : Int) (s9 s10 s11 s12 : Sl) : Rho := [.pl (.lsc (ns.map .int)), .pl (.ref 0), s2, s3, .pl (.tup (xs.map dv)), .pl (.int c), .pl (.int l), .pl (.lst (ms.map dO)), .pl (.int fw), s9, s10, s11, s12, .un]
theorem due_len (l t : Int) (L : Tab) : (dueL l t L).length = (thereL l t L).length := by unfold dueL; rw [List.length_map]
theorem due_fst (l t : Int) (L : Tab) : (dueL l t L).map (·.1) = thereL l t L := by unfold dueL; rw [List.map_map]; simp [Function.comp_def]
theorem due_snd (l t : Int) (L : Tab) : (dueL l t L).map (·.2) = (thereL l t L).map (mk0 L) := by unfold dueL; rw [List.map_map]; rfl
theorem there_len {c l t : Int} {L : Tab} (J : Jt c l t L) (h0 : 0 ≤ c) (h : ∀ n, 0 ≤ n ∧ n < c → n ∈ thereL l t L) : ((thereL l t L).length : Int) = c := by
  have nd := there_nd (l := l) (t := t) J.nd
  have ndr : (rngI c).Nodup := by
    unfold rngI
    unfold List.Nodup
    rw [List.pairwise_map]
    exact List.nodup_range.imp fun h z => h (by omega)
  have l1 := nodup_lenI nd (m := rngI c) fun x hx => rng_mem.mpr (J.rg x (there_keys hx))
  have l2 := nodup_lenI ndr (m := thereL l t L) fun x hx => h x (rng_mem.mp hx)
  have e : (rngI c).length = c.toNat := by simp [rngI]
  omega
theorem cut_to1 (l : List D) (n : Nat) : cutD l none (some ((n : Int) + 1)) = l.take (n + 1) := cut_to' l (n + 1)
theorem in_step (ns : List Int) (s2 s9 s10 s11 s12 : Sl) (xs : List (Int × Int)) (ok : OkA xs) (c l : Int) (h1 : 1 ≤ c) (h2 : c ≤ 9) (h3 : 1 ≤ l) (h4 : l ≤ 1000000000) (fw : Int) (o : D) (k : Nat) (a : Int × Int) (ha : xs[k]? = some a) :
    semSs inB (inR ns s2 (.pl (.int k)) xs c l (runA c l [] xs).1 fw s9 s10 s11 s12) [o] = .nx (inR ns s2 .un xs c l (runA c l [] xs).1 fw .un s10 .un .un) [o] := by
  have hl := ok.len
  obtain ⟨m, hm, J, hs, hn⟩ := ask_more h3 ok.asc ha
  rw [← run_eq (size := c) (span := l) ok.asc] at hm
  obtain ⟨ha0, hall⟩ := asc_all ok.asc ha
  have har := ok.rng a (List.mem_of_getElem? ha)
  have e1 := at_lent c l h1 h2 h3 h4 (xs.take k) (okA_take ok k) [o]
  rw [runA_take] at e1
  have e2 := at_holders c l a.1 h1 h2 h3 h4 ha0 (by omega) (xs.take (k + 1)) (okA_take ok (k + 1)) [o]
  have ef : (xs.take (k + 1)).filter (fun b => decide (b.1 ≤ a.1)) = xs.take (k + 1) := List.filter_eq_self.mpr fun b hb => decide_eq_true (hall b hb)
  rw [ef] at e2
  generalize hL : (runL c l [] (xs.take (k + 1))).2 = L at *
  generalize hms : (runA c l [] xs).1 = ms at *
  have dl := due_len l a.1 L
  have d1 := due_fst l a.1 L
  have d2 := due_snd l a.1 L
  have nd1 : (thereL l a.1 L).Nodup := there_nd J.nd
  have nd2 : ((thereL l a.1 L).map (mk0 L)).Nodup := by
    unfold List.Nodup
    rw [List.pairwise_map]
    exact (List.Pairwise.and_mem.mp nd1).imp fun {x y} ⟨hx, hy, h⟩ z => h (J.one a.1 (Int.le_refl _) x y hx hy z)
  have tl : (thereL l a.1 L).length ≤ 9 := by
    have ndr := nodup_lenI nd1 (m := rngI c) fun x hx => rng_mem.mpr (J.rg x (there_keys hx))
    have e : (rngI c).length = c.toNat := by simp [rngI]
    omega
  have due_mem : ∀ n, n ∈ thereL l a.1 L → (n, mk0 L n) ∈ dueL l a.1 L := fun n h => List.mem_map.mpr ⟨n, h, rfl⟩
  have mk1 := many_nd nd1
  have mk2 := many_nd nd2
  rw [List.length_map] at mk2
  rw [← d1] at mk1 nd1
  rw [← d2] at mk2
  generalize hdu : dueL l a.1 L = due at *
  -- operands
  have ixm : ixE (.lst (ms.map dO)) (.int (k : Int)) = some (dO m) := by
    show atI (ms.map dO) (k : Int) = _
    rw [atI_nat, List.getElem?_map, hm]; rfl
  have ixa : ixE (.tup (xs.map dv)) (.int (k : Int)) = some (dv a) := by
    show atI (xs.map dv) (k : Int) = _
    rw [atI_nat, List.getElem?_map, ha]; rfl
  have sl1 : slE (.tup (xs.map dv)) none (some (k : Int)) = some (.tup ((xs.take k).map dv)) := by
    show some (D.tup (cutD _ _ _)) = _
    rw [cut_to', ← List.map_take]
  have sl2 : slE (.tup (xs.map dv)) none (some ((k : Int) + 1)) = some (.tup ((xs.take (k + 1)).map dv)) := by
    show some (D.tup (cutD _ _ _)) = _
    rw [cut_to1, ← List.map_take]
  have sl3 : slE (.lst (ms.map dO)) none (some (k : Int)) = some (.lst ((ms.take k).map dO)) := by
    show some (D.lst (cutD _ _ _)) = _
    rw [cut_to', ← List.map_take]
  have ne1 := ne_same (dep_opts 59 (ms.take k))
  have hd9 : due.length ≤ 9 := by omega
  -- the comprehensions
  have k1 := lc_map (t := .n 13) (b := semT none) (e := (Xp.ix (Xo.v 13) ((Xp.c (.int 0))).o).sem) (r := inR ns s2 (.pl (.int k)) xs c l ms fw (.pl (.lst (due.map dv))) s10 (.pl (.int a.1)) (.pl (.int a.2))) (h := [o]) (f := dv) (g := fun d : Int × Int => D.int d.1) due fun d _ => ⟨_, rfl, rfl, by simp [inR, on2, vwt, dv, ixE, items]⟩
  have k2 := lc_map (t := .n 13) (b := semT none) (e := (Xp.ix (Xo.v 13) ((Xp.c (.int 1))).o).sem) (r := inR ns s2 (.pl (.int k)) xs c l ms fw (.pl (.lst (due.map dv))) s10 (.pl (.int a.1)) (.pl (.int a.2))) (h := [o]) (f := dv) (g := fun d : Int × Int => D.int d.2) due fun d _ => ⟨_, rfl, rfl, by simp [inR, on2, vwt, dv, ixE, items]⟩
  have it0 : (Ib.seq (Xp.v 9)).sem (inR ns s2 (.pl (.int k)) xs c l ms fw (.pl (.lst (due.map dv))) s10 (.pl (.int a.1)) (.pl (.int a.2))) [o] = .ok (due.map dv) [o] := by
    unfold inR; simp [items]
  have w0 : wipeR (inR ns s2 (.pl (.int k)) xs c l ms fw (.pl (.lst (due.map dv))) s10 (.pl (.int a.1)) (.pl (.int a.2))) (([("_law_one", 13)] : List (Str × Nat)).map (·.2)) = inR ns s2 (.pl (.int k)) xs c l ms fw (.pl (.lst (due.map dv))) s10 (.pl (.int a.1)) (.pl (.int a.2)) := rfl
  have lc1 : lcSem (Xp.ix (Xo.v 13) ((Xp.c (.int 0))).o) (.n 13) (Ib.seq (Xp.v 9)) none [("_law_one", 13)] (inR ns s2 (.pl (.int k)) xs c l ms fw (.pl (.lst (due.map dv))) s10 (.pl (.int a.1)) (.pl (.int a.2))) [o] = .ok (.lst ((due.map (·.1)).map D.int)) [o] := by
    unfold lcSem
    rw [it0, bind_ok, if_pos (by rw [List.length_map]; show _ ≤ 16777216; omega), w0, k1, List.map_map]; rfl
  have lc2 : lcSem (Xp.ix (Xo.v 13) ((Xp.c (.int 1))).o) (.n 13) (Ib.seq (Xp.v 9)) none [("_law_one", 13)] (inR ns s2 (.pl (.int k)) xs c l ms fw (.pl (.lst (due.map dv))) s10 (.pl (.int a.1)) (.pl (.int a.2))) [o] = .ok (.lst ((due.map (·.2)).map D.int)) [o] := by
    unfold lcSem
    rw [it0, bind_ok, if_pos (by rw [List.length_map]; show _ ≤ 16777216; omega), w0, k2, List.map_map]; rfl
  have ls1 : ∀ H, lenSetDI H (some (.lst ((due.map (·.1)).map D.int))) = .ok (.int due.length) H := fun H => by
    unfold lenSetDI
    dsimp only
    rw [ints1]
    dsimp only
    rw [if_pos (by rw [List.length_map]; omega), mk1, List.length_map]
  have ls2 : ∀ H, lenSetDI H (some (.lst ((due.map (·.2)).map D.int))) = .ok (.int due.length) H := fun H => by
    unfold lenSetDI
    dsimp only
    rw [ints1]
    dsimp only
    rw [if_pos (by rw [List.length_map]; omega), mk2, ← dl]
  have nf : ∀ z : Int, cmpE .NotEq (.int z) (.int z) = some false := fun z => by simp [cmp_ne_int]
  have inn := in_int a.2 (due.map (·.2))
  generalize due.map (·.1) = A1 at *
  generalize due.map (·.2) = A2 at *
  simp only [List.map_take] at e1 e2 ne1 sl1 sl2 sl3
  -- statements
  have q1 : ∀ f : Rho → Hh → Out, ((Sm.ife (Xt.cmp .NotEq ((Xp.call "lent" F_lent [(Xp.v 5), (Xp.v 6), (Xp.sl (Xo.v 4) none (some (Xp.v 3)))])).o ((Xp.sl (Xo.v 7) none (some (Xp.v 3)))).o)
        [.s (Sm.ret (Xp.c (.bl false)))]
        []).sem (inR ns s2 (.pl (.int k)) xs c l ms fw s9 s10 s11 s12) [o]).then f = f (inR ns s2 (.pl (.int k)) xs c l ms fw s9 s10 s11 s12) [o] := fun f => by
    unfold inR
    simp [semA, semO, on1, on2, vwt, vwl, sl1, sl3, e1, ne1]
  have q2 : ∀ f : Rho → Hh → Out, ((Sm.asg (.tu [(.n 11), (.n 12)]) (Xp.ix (Xo.v 4) (Xo.v 3))).sem (inR ns s2 (.pl (.int k)) xs c l ms fw s9 s10 s11 s12) [o]).then f = f (inR ns s2 (.pl (.int k)) xs c l ms fw s9 s10 (.pl (.int a.1)) (.pl (.int a.2))) [o] := fun f => by
    unfold inR
    simp [on2, vwt, ixa, dv, Tg.put, Tg.puts]
  have q3 : ∀ f : Rho → Hh → Out, ((Sm.asg (.n 9) (Xp.call "holders" F_holders [(Xp.v 5), (Xp.v 6), (Xp.sl (Xo.v 4) none (some (Xp.bin .Add (Xo.v 3) ((Xp.c (.int 1))).o))), (Xp.v 11)])).sem (inR ns s2 (.pl (.int k)) xs c l ms fw s9 s10 (.pl (.int a.1)) (.pl (.int a.2))) [o]).then f = f (inR ns s2 (.pl (.int k)) xs c l ms fw (.pl (.lst (due.map dv))) s10 (.pl (.int a.1)) (.pl (.int a.2))) [o] := fun f => by
    unfold inR
    simp [semA, semO, on1, on2, vwt, vwl, sl2, e2, binE, Tg.put]
  have q6 : ∀ f : Rho → Hh → Out, ((Sm.ife (Xt.or (Xt.cmp .NotEq ((Xp.lensetI ((Xp.fz (Xn.lc (Xp.ix (Xo.v 13) ((Xp.c (.int 0))).o) (.n 13) (Ib.seq (Xp.v 9)) none [("_law_one", 13)]))).o)).o ((Xp.bi .len [(Xo.v 9)])).o) (Xt.cmp .NotEq ((Xp.lensetI ((Xp.fz (Xn.lc (Xp.ix (Xo.v 13) ((Xp.c (.int 1))).o) (.n 13) (Ib.seq (Xp.v 9)) none [("_law_one", 13)]))).o)).o ((Xp.bi .len [(Xo.v 9)])).o))
        [.s (Sm.ret (Xp.c (.bl false)))]
        []).sem (inR ns s2 (.pl (.int k)) xs c l ms fw (.pl (.lst (due.map dv))) s10 (.pl (.int a.1)) (.pl (.int a.2))) [o]).then f = f (inR ns s2 (.pl (.int k)) xs c l ms fw (.pl (.lst (due.map dv))) s10 (.pl (.int a.1)) (.pl (.int a.2))) [o] := fun f => by
    have g9 : (inR ns s2 (.pl (.int k)) xs c l ms fw (.pl (.lst (due.map dv))) s10 (.pl (.int a.1)) (.pl (.int a.2)))[9]? = some (.pl (.lst (due.map dv))) := rfl
    generalize inR ns s2 (.pl (.int k)) xs c l ms fw (.pl (.lst (due.map dv))) s10 (.pl (.int a.1)) (.pl (.int a.2)) = R at *
    simp [lc1, lc2, vwl, ls1, ls2, semB, onL, vws, biE, lenE, items, g9, on2, nf]
  unfold inB
  rw [ss_s, q1, ss_s, q2, ss_s, q3]
  have fin : ∀ R : Rho, semSs [.kill [3, 9, 11, 12]] R [o] = .nx (killR [3, 9, 11, 12] R) [o] := fun R => rfl
  cases m with
  | some n =>
    obtain ⟨hn1, hn2⟩ := hs n rfl
    have hin : (n, a.2) ∈ due := by rw [← hn2]; exact due_mem n hn1
    have ni := nin_dv (n, a.2) due
    rw [decide_eq_true hin] at ni
    have ni' : cmpE .NotIn (.tup [.int n, .int a.2]) (.lst (due.map dv)) = some false := ni
    have q4 : ∀ f : Rho → Hh → Out, ((Sm.ife (Xt.and (Xt.cmp .NotIn ((Xp.tup [(Xp.ix (Xo.v 7) (Xo.v 3)), (Xp.v 12)])).o (Xo.v 9)) (Xt.cmp .IsNot ((Xp.ix (Xo.v 7) (Xo.v 3))).o ((Xp.c .non)).o))
        [.s (Sm.ret (Xp.c (.bl false)))]
        []).sem (inR ns s2 (.pl (.int k)) xs c l ms fw (.pl (.lst (due.map dv))) s10 (.pl (.int a.1)) (.pl (.int a.2))) [o]).then f = f (inR ns s2 (.pl (.int k)) xs c l ms fw (.pl (.lst (due.map dv))) s10 (.pl (.int a.1)) (.pl (.int a.2))) [o] := fun f => by
      unfold inR
      simp [semA, line, on2, vwt, vwl, ixm, dO, ni']
    have q5 : ∀ f : Rho → Hh → Out, ((Sm.ife (Xt.and (Xt.cmp .Is ((Xp.ix (Xo.v 7) (Xo.v 3))).o ((Xp.c .non)).o) (Xt.or (Xt.cmp .NotEq ((Xp.bi .len [(Xo.v 9)])).o (Xo.v 5)) (Xt.cmp .In (Xo.v 12) ((Xp.fz (Xn.lc (Xp.ix (Xo.v 13) ((Xp.c (.int 1))).o) (.n 13) (Ib.seq (Xp.v 9)) none [("_law_one", 13)]))).o)))
        [.s (Sm.ret (Xp.c (.bl false)))]
        []).sem (inR ns s2 (.pl (.int k)) xs c l ms fw (.pl (.lst (due.map dv))) s10 (.pl (.int a.1)) (.pl (.int a.2))) [o]).then f = f (inR ns s2 (.pl (.int k)) xs c l ms fw (.pl (.lst (due.map dv))) s10 (.pl (.int a.1)) (.pl (.int a.2))) [o] := fun f => by
      unfold inR
      simp [on2, vwt, vwl, ixm, dO, isNonD]
    rw [ss_s, q4, ss_s, q5, ss_s, q6, fin]
    rfl
  | none =>
    obtain ⟨hn1, hn2⟩ := hn rfl
    have hc : (due.length : Int) = c := by
      have := there_len J (by omega) hn1
      omega
    have hni : a.2 ∉ A2 := fun z => by
      rw [d2] at z
      obtain ⟨n, h5, h6⟩ := List.mem_map.mp z
      exact hn2 n h5 h6
    rw [decide_eq_false hni] at inn
    obtain ⟨b, ni⟩ := nin_any (.tup [.non, .int a.2]) rfl due
    have q4 : ∀ f : Rho → Hh → Out, ((Sm.ife (Xt.and (Xt.cmp .NotIn ((Xp.tup [(Xp.ix (Xo.v 7) (Xo.v 3)), (Xp.v 12)])).o (Xo.v 9)) (Xt.cmp .IsNot ((Xp.ix (Xo.v 7) (Xo.v 3))).o ((Xp.c .non)).o))
        [.s (Sm.ret (Xp.c (.bl false)))]
        []).sem (inR ns s2 (.pl (.int k)) xs c l ms fw (.pl (.lst (due.map dv))) s10 (.pl (.int a.1)) (.pl (.int a.2))) [o]).then f = f (inR ns s2 (.pl (.int k)) xs c l ms fw (.pl (.lst (due.map dv))) s10 (.pl (.int a.1)) (.pl (.int a.2))) [o] := fun f => by
      unfold inR
      cases b <;> simp [semA, line, on2, vwt, vwl, ixm, dO, ni, isNonD]
    have q5 : ∀ f : Rho → Hh → Out, ((Sm.ife (Xt.and (Xt.cmp .Is ((Xp.ix (Xo.v 7) (Xo.v 3))).o ((Xp.c .non)).o) (Xt.or (Xt.cmp .NotEq ((Xp.bi .len [(Xo.v 9)])).o (Xo.v 5)) (Xt.cmp .In (Xo.v 12) ((Xp.fz (Xn.lc (Xp.ix (Xo.v 13) ((Xp.c (.int 1))).o) (.n 13) (Ib.seq (Xp.v 9)) none [("_law_one", 13)]))).o)))
        [.s (Sm.ret (Xp.c (.bl false)))]
        []).sem (inR ns s2 (.pl (.int k)) xs c l ms fw (.pl (.lst (due.map dv))) s10 (.pl (.int a.1)) (.pl (.int a.2))) [o]).then f = f (inR ns s2 (.pl (.int k)) xs c l ms fw (.pl (.lst (due.map dv))) s10 (.pl (.int a.1)) (.pl (.int a.2))) [o] := fun f => by
      have g9 : (inR ns s2 (.pl (.int k)) xs c l ms fw (.pl (.lst (due.map dv))) s10 (.pl (.int a.1)) (.pl (.int a.2)))[9]? = some (.pl (.lst (due.map dv))) := rfl
      have g7 : (inR ns s2 (.pl (.int k)) xs c l ms fw (.pl (.lst (due.map dv))) s10 (.pl (.int a.1)) (.pl (.int a.2)))[7]? = some (.pl (.lst (ms.map dO))) := rfl
      have g3 : (inR ns s2 (.pl (.int k)) xs c l ms fw (.pl (.lst (due.map dv))) s10 (.pl (.int a.1)) (.pl (.int a.2)))[3]? = some (.pl (.int k)) := rfl
      have g5 : (inR ns s2 (.pl (.int k)) xs c l ms fw (.pl (.lst (due.map dv))) s10 (.pl (.int a.1)) (.pl (.int a.2)))[5]? = some (.pl (.int c)) := rfl
      have g12 : (inR ns s2 (.pl (.int k)) xs c l ms fw (.pl (.lst (due.map dv))) s10 (.pl (.int a.1)) (.pl (.int a.2)))[12]? = some (.pl (.int a.2)) := rfl
      generalize inR ns s2 (.pl (.int k)) xs c l ms fw (.pl (.lst (due.map dv))) s10 (.pl (.int a.1)) (.pl (.int a.2)) = R at *
      simp [g9, g7, g3, g5, g12, on2, vwt, vwl, ixm, dO, isNonD, lc2, inn, semB, onL, vws, biE, lenE, items, hc, nf]
    rw [ss_s, q4, ss_s, q5, ss_s, q6, fin]
    rfl
end Ev

set_option Elab.async false
set_option linter.all false
set_option maxRecDepth 100000
set_option maxHeartbeats 2000000
/-! ## marks lent again: the law -/
namespace Ev
open PySem L2 Pf
theorem ask_look {c l : Int} {L : Tab} {t k m : Int} (h : (askL c l L t k).1 = some m) : tlook (askL c l L t k).2 m = some (k, t) := by
  unfold askL at h ⊢
  cases q : pickM (ownL l t k L) (freeL c l t L) with
  | none => rw [q] at h; cases h
  | some n =>
    rw [q] at h
    cases h
    dsimp only
    rw [tlook_tput]; simp
theorem runL_take (c l : Int) : ∀ (xs : List (Int × Int)) (L : Tab) (k : Nat), (runL c l L (xs.take k)).1 = (runL c l L xs).1.take k
  | [], L, k => by simp [runL]
  | a :: xs, L, 0 => by simp [runL]
  | a :: xs, L, k + 1 => by simp [runL, runL_take c l xs _ k]
theorem last_look {c l : Int} {xs : List (Int × Int)} {k : Nat} {a : Int × Int} {n : Int} (ha : xs[k]? = some a) (hm : (runL c l [] xs).1[k]? = some (some n)) : tlook (runL c l [] (xs.take (k + 1))).2 n = some (a.2, a.1) := by
  have hk := (List.getElem?_eq_some_iff.mp ha).1
  have et : xs.take (k + 1) = xs.take k ++ [a] := by rw [List.take_add_one, ha]; rfl
  have e := runL_take c l xs [] (k + 1)
  rw [et, runL_snoc] at e
  rw [et, runL_snoc]
  have lk : (runL c l [] (xs.take k)).1.length = k := by rw [runL_len, List.length_take]; omega
  have e2 : ((runL c l [] xs).1.take (k + 1))[k]? = some (askL c l (runL c l [] (xs.take k)).2 a.1 a.2).1 := by
    rw [← e]
    dsimp only
    rw [List.getElem?_append_right (by omega), lk, Nat.sub_self]; rfl
  rw [List.getElem?_take] at e2
  simp only [Nat.lt_succ_self, if_true] at e2
  rw [hm] at e2
  cases e2q : (askL c l (runL c l [] (xs.take k)).2 a.1 a.2).1 with
  | none => rw [e2q] at e2; cases e2
  | some n' =>
    rw [e2q] at e2; cases e2
    exact ask_look e2q
theorem dep_dvs (n : Nat) (l : List (Int × Int)) : dep (n + 2) (.lst (l.map dv)) = true := by
  simp only [dep, List.all_map]
  exact List.all_eq_true.mpr fun x _ => by simp [dv, dep]
theorem eqv_nil (l : List (Int × Int)) : PyData.eqvAll (pds (l.map dv)) (pds []) = decide (l = []) := by
  cases l <;> simp [pds, PyData.eqvAll]
theorem eq_nilv (l : List (Int × Int)) : cmpE .Eq (.lst (l.map dv)) (.lst []) = some (decide (l = [])) := by
  have d0 : dep 60 (.lst []) = true := rfl
  show eqE _ _ = _
  unfold eqE
  rw [dep_dvs 58, d0]
  simp only [Bool.and_self, if_true, pd, PyData.eqv, eqv_nil]
theorem ne_nilt (l : List (Int × Int)) : cmpE .NotEq (.tup (l.map dv)) (.tup []) = some (!decide (l = [])) := by
  have d0 : dep 60 (.tup []) = true := rfl
  have d1 : dep 60 (.tup (l.map dv)) = true := by
    simp only [dep, List.all_map]
    exact List.all_eq_true.mpr fun x _ => rfl
  show (eqE _ _).map not = _
  unfold eqE
  rw [d1, d0]
  simp only [Bool.and_self, if_true, pd, PyData.eqv, eqv_nil]
  rfl
theorem at_lst {α : Type} (f : α → D) (ys : List α) (a : α) : atI ((ys ++ [a]).map f) (-1) = some (f a) := by
  rw [List.map_append]
  show atI (ys.map f ++ [f a]) (-1) = _
  unfold atI ixN
  simp [show (1 : Int) ≤ (ys.length : Int) + 1 by omega, show (-1 + ((ys.length : Int) + 1)).toNat = ys.length by omega]
theorem in_loop (ns : List Int) (s2 : Sl) (xs : List (Int × Int)) (ok : OkA xs) (c l : Int) (h1 : 1 ≤ c) (h2 : c ≤ 9) (h3 : 1 ≤ l) (h4 : l ≤ 1000000000) (fw : Int) (o : D) : ∀ (n k : Nat), k + n = xs.length →
    forGo (.n 3) (semSs inB) ((List.range' k n).map fun (i : Nat) => D.int (i : Int)) (inR ns s2 .un xs c l (runA c l [] xs).1 fw .un .un .un .un) [o] = .nx (inR ns s2 .un xs c l (runA c l [] xs).1 fw .un .un .un .un) [o]
  | 0, k, _ => rfl
  | n + 1, k, e => by
    obtain ⟨a, ha⟩ : ∃ a, xs[k]? = some a := ⟨_, List.getElem?_eq_getElem (by omega)⟩
    have st := in_step ns s2 .un .un .un .un xs ok c l h1 h2 h3 h4 fw o k a ha
    have put : (Tg.n 3).put (.int (k : Int)) (inR ns s2 .un xs c l (runA c l [] xs).1 fw .un .un .un .un) = some (inR ns s2 (.pl (.int k)) xs c l (runA c l [] xs).1 fw .un .un .un .un) := rfl
    rw [List.range'_succ, List.map_cons, for_nx' put st]
    exact in_loop ns s2 xs ok c l h1 h2 h3 h4 fw o n (k + 1) (by omega)
def twR (ns : List Int) (s2 s4 s5 s6 s7 s8 s10 : Sl) : Rho := [.pl (.lsc (ns.map .int)), .pl (.ref 0), s2, .un, s4, s5, s6, s7, s8, .un, s10, .un, .un, .un]
def lwB : List Si := [.s (Sm.par [4, 5, 6] [.inl (Xp.call "_law_asks" F__law_asks [(Xp.v 1), (Xp.c (.int 16)), (Xp.c (.int 6))]), .inl (Xp.bin .Add ((Xp.c (.int 1))).o ((Xp.call "_law_taken" F__law_taken [(Xp.v 1), (Xp.c (.int 5))])).o), .inl (Xp.bin .Add ((Xp.c (.int 1))).o ((Xp.call "_law_taken" F__law_taken [(Xp.v 1), (Xp.c (.int 14))])).o)]),
     .s (Sm.par [7, 8] [.inl (Xp.call "lent" F_lent [(Xp.v 5), (Xp.v 6), (Xp.v 4)]), .inl (Xp.call "fewest_marks" F_fewest_marks [(Xp.v 6), (Xp.v 4)])]),
     .s (Sm.ife (Xt.or (Xt.cmp .NotEq ((Xp.bi .len [(Xo.v 7)])).o ((Xp.bi .len [(Xo.v 4)])).o) (Xt.cmp .NotEq ((Xp.cmp .In ((Xp.c .non)).o (Xo.v 7))).o ((Xp.cmp .Gt (Xo.v 8) (Xo.v 5))).o))
      [.s (Sm.ret (Xp.c (.bl false)))]
      []),
     .s (Sm.for_ (.n 3) (Ib.r1 (Xp.bi .len [(Xo.v 4)]))
      [.s (Sm.ife (Xt.cmp .NotEq ((Xp.call "lent" F_lent [(Xp.v 5), (Xp.v 6), (Xp.sl (Xo.v 4) none (some (Xp.v 3)))])).o ((Xp.sl (Xo.v 7) none (some (Xp.v 3)))).o)
        [.s (Sm.ret (Xp.c (.bl false)))]
        []),
       .s (Sm.asg (.tu [(.n 11), (.n 12)]) (Xp.ix (Xo.v 4) (Xo.v 3))),
       .s (Sm.asg (.n 9) (Xp.call "holders" F_holders [(Xp.v 5), (Xp.v 6), (Xp.sl (Xo.v 4) none (some (Xp.bin .Add (Xo.v 3) ((Xp.c (.int 1))).o))), (Xp.v 11)])),
       .s (Sm.ife (Xt.and (Xt.cmp .NotIn ((Xp.tup [(Xp.ix (Xo.v 7) (Xo.v 3)), (Xp.v 12)])).o (Xo.v 9)) (Xt.cmp .IsNot ((Xp.ix (Xo.v 7) (Xo.v 3))).o ((Xp.c .non)).o))
        [.s (Sm.ret (Xp.c (.bl false)))]
        []),
       .s (Sm.ife (Xt.and (Xt.cmp .Is ((Xp.ix (Xo.v 7) (Xo.v 3))).o ((Xp.c .non)).o) (Xt.or (Xt.cmp .NotEq ((Xp.bi .len [(Xo.v 9)])).o (Xo.v 5)) (Xt.cmp .In (Xo.v 12) ((Xp.fz (Xn.lc (Xp.ix (Xo.v 13) ((Xp.c (.int 1))).o) (.n 13) (Ib.seq (Xp.v 9)) none [("_law_one", 13)]))).o)))
        [.s (Sm.ret (Xp.c (.bl false)))]
        []),
       .s (Sm.ife (Xt.or (Xt.cmp .NotEq ((Xp.lensetI ((Xp.fz (Xn.lc (Xp.ix (Xo.v 13) ((Xp.c (.int 0))).o) (.n 13) (Ib.seq (Xp.v 9)) none [("_law_one", 13)]))).o)).o ((Xp.bi .len [(Xo.v 9)])).o) (Xt.cmp .NotEq ((Xp.lensetI ((Xp.fz (Xn.lc (Xp.ix (Xo.v 13) ((Xp.c (.int 1))).o) (.n 13) (Ib.seq (Xp.v 9)) none [("_law_one", 13)]))).o)).o ((Xp.bi .len [(Xo.v 9)])).o))
        [.s (Sm.ret (Xp.c (.bl false)))]
        []), .kill [3, 9, 11, 12]]),
     .s (Sm.ife (Xt.cmp .NotEq (Xo.v 4) ((Xp.tup [])).o)
      [.s (Sm.asg (.n 10) (Xp.bin .Add ((Xp.ix ((Xp.ix (Xo.v 4) ((Xp.neg (Xp.c (.int 1)))).o)).o ((Xp.c (.int 0))).o)).o (Xo.v 6))),
       .s (Sm.ife (Xt.cmp .NotEq ((Xp.call "holders" F_holders [(Xp.v 5), (Xp.v 6), (Xp.v 4), (Xp.v 10)])).o ((Xp.fz (Xn.lst []))).o)
        [.s (Sm.ret (Xp.c (.bl false)))]
        []),
       .s (Sm.ife (Xt.and (Xt.cmp .IsNot ((Xp.ix (Xo.v 7) ((Xp.neg (Xp.c (.int 1)))).o)).o ((Xp.c .non)).o) (Xt.cmp .Eq ((Xp.call "holders" F_holders [(Xp.v 5), (Xp.v 6), (Xp.v 4), (Xp.bin .Sub (Xo.v 10) ((Xp.c (.int 1))).o)])).o ((Xp.fz (Xn.lst []))).o))
        [.s (Sm.ret (Xp.c (.bl false)))]
        [])]
      []),
     .kill [10],
     .s (Sm.ife (Xt.and (Xt.chain .Lt .Lt ((Xp.c (.int 0))).o (Xo.v 8) ((Xp.c (.int 10))).o) (Xt.cmp .NotEq ((Xp.call "lent" F_lent [(Xp.v 8), (Xp.v 6), (Xp.v 4)])).o ((Xp.call "lent" F_lent [(Xp.c (.int 9)), (Xp.v 6), (Xp.v 4)])).o))
      [.s (Sm.ret (Xp.c (.bl false)))]
      []),
     .s (Sm.ife (Xt.and (Xt.cmp .Gt (Xo.v 8) ((Xp.c (.int 1))).o) (Xt.and (Xt.cmp .Lt (Xo.v 8) ((Xp.c (.int 10))).o) (Xt.cmp .NotIn ((Xp.c .non)).o ((Xp.call "lent" F_lent [(Xp.bin .Sub (Xo.v 8) ((Xp.c (.int 1))).o), (Xp.v 6), (Xp.v 4)])).o)))
      [.s (Sm.ret (Xp.c (.bl false)))]
      []),
     .s (Sm.ife (Xt.not (Xt.e ((Xp.call "_law_are_late" F__law_are_late [(Xp.v 1), (Xp.v 5), (Xp.v 6), (Xp.v 4)])).o))
      [.s (Sm.ret (Xp.c (.bl false)))]
      []), .kill [2, 3, 4, 5, 6, 7, 8, 9, 10, 11, 12]]
def endS : Sm := Sm.ife (Xt.cmp .NotEq (Xo.v 4) ((Xp.tup [])).o)
      [.s (Sm.asg (.n 10) (Xp.bin .Add ((Xp.ix ((Xp.ix (Xo.v 4) ((Xp.neg (Xp.c (.int 1)))).o)).o ((Xp.c (.int 0))).o)).o (Xo.v 6))),
       .s (Sm.ife (Xt.cmp .NotEq ((Xp.call "holders" F_holders [(Xp.v 5), (Xp.v 6), (Xp.v 4), (Xp.v 10)])).o ((Xp.fz (Xn.lst []))).o)
        [.s (Sm.ret (Xp.c (.bl false)))]
        []),
       .s (Sm.ife (Xt.and (Xt.cmp .IsNot ((Xp.ix (Xo.v 7) ((Xp.neg (Xp.c (.int 1)))).o)).o ((Xp.c .non)).o) (Xt.cmp .Eq ((Xp.call "holders" F_holders [(Xp.v 5), (Xp.v 6), (Xp.v 4), (Xp.bin .Sub (Xo.v 10) ((Xp.c (.int 1))).o)])).o ((Xp.fz (Xn.lst []))).o))
        [.s (Sm.ret (Xp.c (.bl false)))]
        [])]
      []
theorem end_S (ns : List Int) (s2 : Sl) (xs : List (Int × Int)) (ok : OkA xs) (c l : Int) (h1 : 1 ≤ c) (h2 : c ≤ 9) (h3 : 1 ≤ l) (h4 : l ≤ 1000000000) (fw : Int) (o : D) : ∃ s10, endS.sem (twR ns s2 (.pl (.tup (xs.map dv))) (.pl (.int c)) (.pl (.int l)) (.pl (.lst ((runA c l [] xs).1.map dO))) (.pl (.int fw)) .un) [o] = .nx (twR ns s2 (.pl (.tup (xs.map dv))) (.pl (.int c)) (.pl (.int l)) (.pl (.lst ((runA c l [] xs).1.map dO))) (.pl (.int fw)) s10) [o] := by
  have hl := ok.len
  by_cases hx : xs = []
  · have n1 := ne_nilt xs
    rw [decide_eq_true hx] at n1
    refine ⟨.un, ?_⟩
    unfold endS twR
    simp [semA, line, on2, vwt, n1]
  have n1 := ne_nilt xs
  rw [decide_eq_false hx] at n1
  obtain ⟨ys, a, rfl⟩ : ∃ ys a, xs = ys ++ [a] := ⟨xs.dropLast, xs.getLast hx, (List.dropLast_concat_getLast hx).symm⟩
  have ha : (ys ++ [a])[ys.length]? = some a := by rw [List.getElem?_append_right (Nat.le_refl _), Nat.sub_self]; rfl
  obtain ⟨m, hm, J, _, _⟩ := ask_more h3 ok.asc ha
  obtain ⟨ha0, hall⟩ := asc_all ok.asc ha
  have et : (ys ++ [a]).take (ys.length + 1) = ys ++ [a] := List.take_of_length_le (by simp)
  have ll := fun n (h : (runL c l [] (ys ++ [a])).1[ys.length]? = some (some n)) => last_look (c := c) (l := l) ha h
  rw [et] at J hall ll
  have har := ok.rng a (by simp)
  have hm' := hm
  rw [← run_eq (size := c) (span := l) ok.asc] at hm'
  have el : (runA c l [] (ys ++ [a])).1 = (runA c l [] (ys ++ [a])).1.dropLast ++ [m] := by
    have hlen : (runA c l [] (ys ++ [a])).1.length = ys.length + 1 := by rw [runA_len]; simp
    have hne : (runA c l [] (ys ++ [a])).1 ≠ [] := fun z => by rw [z] at hlen; simp at hlen
    have h := (List.dropLast_concat_getLast hne).symm
    rw [List.getLast_eq_getElem] at h
    have : (runA c l [] (ys ++ [a])).1[(runA c l [] (ys ++ [a])).1.length - 1]? = some m := by rw [hlen]; exact hm'
    rw [List.getElem?_eq_getElem (by rw [hlen]; omega)] at this
    rw [Option.some.inj this] at h
    exact h
  have ixa : ixE (.tup ((ys ++ [a]).map dv)) (.int (-1)) = some (dv a) := at_lst dv ys a
  have ixm : ixE (.lst ((runA c l [] (ys ++ [a])).1.map dO)) (.int (-1)) = some (dO m) := by
    rw [el]; exact at_lst dO _ m
  have e1 := at_holders c l (a.1 + l) h1 h2 h3 h4 (by omega) (by omega) (ys ++ [a]) ok [o]
  have e2 := at_holders c l (a.1 + l - 1) h1 h2 h3 h4 (by omega) (by omega) (ys ++ [a]) ok [o]
  rw [List.filter_eq_self.mpr fun b hb => decide_eq_true (by have := hall b hb; omega)] at e1
  rw [List.filter_eq_self.mpr fun b hb => decide_eq_true (by have := hall b hb; omega)] at e2
  have d1 : dueL l (a.1 + l) (runL c l [] (ys ++ [a])).2 = [] := by
    unfold dueL
    rw [List.map_eq_nil_iff, List.eq_nil_iff_forall_not_mem]
    intro n hn
    rw [there_iff] at hn
    obtain ⟨v, hv, h⟩ := hn
    have := J.tm _ (tlook_mem hv)
    dsimp only at this
    omega
  rw [d1] at e1
  have d2 : ∀ n, m = some n → dueL l (a.1 + l - 1) (runL c l [] (ys ++ [a])).2 ≠ [] := fun n hn z => by
    subst hn
    have hv := ll n hm
    have : n ∈ thereL l (a.1 + l - 1) (runL c l [] (ys ++ [a])).2 := there_iff.mpr ⟨_, hv, by dsimp only; omega⟩
    unfold dueL at z
    rw [List.map_eq_nil_iff] at z
    rw [z] at this; simp at this
  have en := eq_nilv (dueL l (a.1 + l - 1) (runL c l [] (ys ++ [a])).2)
  have nn : cmpE .NotEq (.lst []) (.lst []) = some false := ne_same rfl
  refine ⟨.pl (.int (a.1 + l)), ?_⟩
  generalize (ys ++ [a]).map dv = X at *
  generalize (runA c l [] (ys ++ [a])).1.map dO = Y at *
  generalize dueL l (a.1 + l - 1) (runL c l [] (ys ++ [a])).2 = due at *
  have ix0 : ixE (dv a) (.int 0) = some (.int a.1) := by simp [dv, ixE, items]
  have vwd : ∀ h, vw h (dv a) = some (dv a) := fun _ => rfl
  unfold endS twR
  cases m with
  | none => simp [semA, line, on2, vwt, vwl, n1, ixa, ix0, vwd, binE, Tg.put, e1, nn, ixm, dO, isNonD]
  | some n =>
    have := d2 n rfl
    rw [decide_eq_false this] at en
    simp [semA, line, on2, vwt, vwl, n1, ixa, ix0, vwd, binE, Tg.put, e1, nn, ixm, dO, isNonD, e2, en]
end Ev

set_option Elab.async false
set_option linter.all false
set_option maxRecDepth 100000
set_option maxHeartbeats 2000000
/-! ## marks lent again: the law, its end -/
namespace Ev
open PySem L2 Pf
def thS : Sm := Sm.ife (Xt.or (Xt.cmp .NotEq ((Xp.bi .len [(Xo.v 7)])).o ((Xp.bi .len [(Xo.v 4)])).o) (Xt.cmp .NotEq ((Xp.cmp .In ((Xp.c .non)).o (Xo.v 7))).o ((Xp.cmp .Gt (Xo.v 8) (Xo.v 5))).o))
      [.s (Sm.ret (Xp.c (.bl false)))]
      []
def fiS : Sm := Sm.ife (Xt.and (Xt.chain .Lt .Lt ((Xp.c (.int 0))).o (Xo.v 8) ((Xp.c (.int 10))).o) (Xt.cmp .NotEq ((Xp.call "lent" F_lent [(Xp.v 8), (Xp.v 6), (Xp.v 4)])).o ((Xp.call "lent" F_lent [(Xp.c (.int 9)), (Xp.v 6), (Xp.v 4)])).o))
      [.s (Sm.ret (Xp.c (.bl false)))]
      []
def gtS : Sm := Sm.ife (Xt.and (Xt.cmp .Gt (Xo.v 8) ((Xp.c (.int 1))).o) (Xt.and (Xt.cmp .Lt (Xo.v 8) ((Xp.c (.int 10))).o) (Xt.cmp .NotIn ((Xp.c .non)).o ((Xp.call "lent" F_lent [(Xp.bin .Sub (Xo.v 8) ((Xp.c (.int 1))).o), (Xp.v 6), (Xp.v 4)])).o)))
      [.s (Sm.ret (Xp.c (.bl false)))]
      []
theorem th_S (ns : List Int) (s2 : Sl) (xs : List (Int × Int)) (ok : OkA xs) (c l : Int) (h1 : 1 ≤ c) (h2 : c ≤ 9) (o : D) : thS.sem (twR ns s2 (.pl (.tup (xs.map dv))) (.pl (.int c)) (.pl (.int l)) (.pl (.lst ((runA c l [] xs).1.map dO))) (.pl (.int (topM (runA 40 l [] xs).1))) .un) [o] = .nx (twR ns s2 (.pl (.tup (xs.map dv))) (.pl (.int c)) (.pl (.int l)) (.pl (.lst ((runA c l [] xs).1.map dO))) (.pl (.int (topM (runA 40 l [] xs).1))) .un) [o] := by
  have hl := ok.len
  have fi := fewest_iff (c := c) (C := 40) (l := l) (by omega) (by omega) (xs := xs) (by omega)
  have rl := runA_len c l xs []
  have im := in_none (runA c l [] xs).1
  generalize (runA c l [] xs).1 = ms at *
  generalize topM (runA 40 l [] xs).1 = fw at *
  have nf : ∀ z : Int, cmpE .NotEq (.int z) (.int z) = some false := fun z => by simp [cmp_ne_int]
  have nb : ∀ b : Bool, cmpE .NotEq (.bl b) (.bl b) = some false := fun b => by cases b <;> rfl
  have gt : cmpE .Gt (.int fw) (.int c) = some (decide (none ∈ ms)) := by
    simp only [cmpE, ltE]
    rw [show decide (c < fw) = decide (none ∈ ms) from by simp only [fi]]
  have nl := nf (xs.length : Int)
  unfold thS twR
  simp [semB, onL, vws, vwt, vwl, biE, lenE, items, on2, rl, nl, im, gt, ofB, nb, show xs.length ≤ 16777216 by omega, show (xs.length : Int) < 9223372036854775808 by omega]
theorem fi_S (ns : List Int) (s2 : Sl) (xs : List (Int × Int)) (ok : OkA xs) (c l : Int) (h3 : 1 ≤ l) (h4 : l ≤ 1000000000) (M : D) (s10 : Sl) (o : D) : fiS.sem (twR ns s2 (.pl (.tup (xs.map dv))) (.pl (.int c)) (.pl (.int l)) (.pl M) (.pl (.int (topM (runA 40 l [] xs).1))) s10) [o] = .nx (twR ns s2 (.pl (.tup (xs.map dv))) (.pl (.int c)) (.pl (.int l)) (.pl M) (.pl (.int (topM (runA 40 l [] xs).1))) s10) [o] := by
  have hl := ok.len
  generalize hfw : topM (runA 40 l [] xs).1 = fw
  have ch : ∀ R, R[8]? = some (.pl (.int fw)) → (Xt.chain .Lt .Lt ((Xp.c (.int 0))).o (Xo.v 8) ((Xp.c (.int 10))).o).sem R [o] = .ok (decide (0 < fw ∧ fw < 10)) [o] := fun R h8 => by
    by_cases q1 : 0 < fw
    · by_cases q2 : fw < 10 <;> simp [chainS, h8, on2, cmpE, ltE, toB, ofB, q1, q2]
    · simp [chainS, h8, on2, cmpE, ltE, toB, ofB, q1]
  have ch := ch (twR ns s2 (.pl (.tup (xs.map dv))) (.pl (.int c)) (.pl (.int l)) (.pl M) (.pl (.int fw)) s10) rfl
  unfold fiS
  by_cases q : 0 < fw ∧ fw < 10
  · have e1 := at_lent fw l (by omega) (by omega) h3 h4 xs ok [o]
    have e2 := at_lent 9 l (by omega) (by omega) h3 h4 xs ok [o]
    have eq : (runA fw l [] xs).1 = (runA 9 l [] xs).1 := by
      rcases run_size (c := fw) (C := 9) (by omega) (by omega) l xs [] (fun m hm => by simp [keys] at hm) with ⟨g, _⟩ | ⟨g, _⟩
      · exact g
      · have := (fewest_iff (c := fw) (C := 40) (l := l) (by omega) (by omega) (xs := xs) (by omega)).mp g
        omega
    rw [eq] at e1
    have ne := ne_same (dep_opts 59 (runA 9 l [] xs).1)
    rw [decide_eq_true q] at ch
    have g5 : (twR ns s2 (.pl (.tup (xs.map dv))) (.pl (.int c)) (.pl (.int l)) (.pl M) (.pl (.int fw)) s10)[8]? = some (.pl (.int fw)) := rfl
    have g6 : (twR ns s2 (.pl (.tup (xs.map dv))) (.pl (.int c)) (.pl (.int l)) (.pl M) (.pl (.int fw)) s10)[6]? = some (.pl (.int l)) := rfl
    have g4 : (twR ns s2 (.pl (.tup (xs.map dv))) (.pl (.int c)) (.pl (.int l)) (.pl M) (.pl (.int fw)) s10)[4]? = some (.pl (.tup (xs.map dv))) := rfl
    generalize twR ns s2 (.pl (.tup (xs.map dv))) (.pl (.int c)) (.pl (.int l)) (.pl M) (.pl (.int fw)) s10 = R at *
    rw [ms_ife]
    simp only [mt_and, ch, bind_ok, if_true]
    simp [semA, g5, g6, g4, e1, e2, on2, vwl, ne]
  · rw [decide_eq_false q] at ch
    generalize twR ns s2 (.pl (.tup (xs.map dv))) (.pl (.int c)) (.pl (.int l)) (.pl M) (.pl (.int fw)) s10 = R at *
    rw [ms_ife]
    simp only [mt_and, ch, bind_ok]
    simp
theorem gt_S (ns : List Int) (s2 : Sl) (xs : List (Int × Int)) (ok : OkA xs) (c l : Int) (h3 : 1 ≤ l) (h4 : l ≤ 1000000000) (M : D) (s10 : Sl) (o : D) : gtS.sem (twR ns s2 (.pl (.tup (xs.map dv))) (.pl (.int c)) (.pl (.int l)) (.pl M) (.pl (.int (topM (runA 40 l [] xs).1))) s10) [o] = .nx (twR ns s2 (.pl (.tup (xs.map dv))) (.pl (.int c)) (.pl (.int l)) (.pl M) (.pl (.int (topM (runA 40 l [] xs).1))) s10) [o] := by
  have hl := ok.len
  generalize hfw : topM (runA 40 l [] xs).1 = fw
  unfold gtS twR
  by_cases q1 : 1 < fw
  · have g1 : cmpE .Gt (.int fw) (.int 1) = some true := by simp [cmpE, ltE, q1]
    by_cases q2 : fw < 10
    · have g2 : cmpE .Lt (.int fw) (.int 10) = some true := by simp [cmpE, ltE, q2]
      have e1 := at_lent (fw - 1) l (by omega) (by omega) h3 h4 xs ok [o]
      have hin : none ∈ (runA (fw - 1) l [] xs).1 := (fewest_iff (c := fw - 1) (C := 40) (l := l) (by omega) (by omega) (xs := xs) (by omega)).mpr (by omega)
      have ni := nin_none (runA (fw - 1) l [] xs).1
      rw [decide_eq_true hin] at ni
      simp [semA, on2, g1, g2, binE, e1, vwl, ni]
    · have g2 : cmpE .Lt (.int fw) (.int 10) = some false := by simp [cmpE, ltE]; omega
      simp [semA, on2, g1, g2]
  · have g1 : cmpE .Gt (.int fw) (.int 1) = some false := by simp [cmpE, ltE]; omega
    simp [semA, on2, g1]
theorem len_r1 (xs : List (Int × Int)) (hl : xs.length ≤ 40) (R : Rho) (o : D) (h4 : R[4]? = some (.pl (.tup (xs.map dv)))) : (Ib.r1 (Xp.bi .len [(Xo.v 4)])).sem R [o] = .ok ((List.range' 0 xs.length).map fun (i : Nat) => D.int (i : Int)) [o] := by
  have r2 : rngOk (xs.length : Int) = true := by
    unfold rngOk
    rw [Bool.and_eq_true, decide_eq_true_eq, decide_eq_true_eq]
    exact ⟨by omega, by omega⟩
  have e : (Xp.bi .len [(Xo.v 4)]).sem R [o] = .ok (.int xs.length) [o] := by
    simp [semB, onL, vws, vwt, biE, lenE, items, h4, show xs.length ≤ 16777216 by omega, show (xs.length : Int) < 9223372036854775808 by omega]
  rw [mi_r1, e, bind_ok]
  dsimp only
  rw [if_pos r2, ← List.range_eq_range']
  rfl
theorem lw_turn (ns : List Int) (t : Sl) (o : D) (ro : Row o) : ∃ o', Row o' ∧ semSs lwB (twR ns t .un .un .un .un .un .un) [o] = .nx (twR ns .un .un .un .un .un .un .un) [o'] := by
  obtain ⟨xs, b, o1, r1, hb, a1, a2, a3, e1⟩ := at_asks 16 6 (by omega) (by omega) (by omega) (by omega) o ro
  have ok : OkA xs := ⟨a1.le hb.1, by omega, fun a ha => by obtain ⟨b1, b2, b3⟩ := a3 a ha; exact ⟨by omega, b2, by omega⟩⟩
  obtain ⟨c0, o2, r2, hc0, e2⟩ := at_taken 5 (by omega) (by omega) o1 r1
  obtain ⟨l0, o3, r3, hl0, e3⟩ := at_taken 14 (by omega) (by omega) o2 r2
  have h1 : (1 : Int) ≤ 1 + c0 := by omega
  have h2 : (1 : Int) + c0 ≤ 9 := by omega
  have h3 : (1 : Int) ≤ 1 + l0 := by omega
  have h4 : (1 : Int) + l0 ≤ 1000000000 := by omega
  have e4 := at_lent (1 + c0) (1 + l0) h1 h2 h3 h4 xs ok [o3]
  have e5 := at_fewest (1 + l0) h3 h4 xs ok [o3]
  obtain ⟨o4, r4, e6⟩ := at_late (1 + c0) (1 + l0) h1 h2 h3 h4 xs ok (fun a ha => by have := (a3 a ha).1; omega) o3 r3
  have hl := ok.len
  have e7 := th_S ns t xs ok (1 + c0) (1 + l0) h1 h2 o3
  have e8 := in_loop ns t xs ok (1 + c0) (1 + l0) h1 h2 h3 h4 (topM (runA 40 (1 + l0) [] xs).1) o3 xs.length 0 (by omega)
  obtain ⟨s10, e9⟩ := end_S ns t xs ok (1 + c0) (1 + l0) h1 h2 h3 h4 (topM (runA 40 (1 + l0) [] xs).1) o3
  have e10 := fi_S ns t xs ok (1 + c0) (1 + l0) h3 h4 (.lst ((runA (1 + c0) (1 + l0) [] xs).1.map dO)) .un o3
  have e11 := gt_S ns t xs ok (1 + c0) (1 + l0) h3 h4 (.lst ((runA (1 + c0) (1 + l0) [] xs).1.map dO)) .un o3
  generalize topM (runA 40 (1 + l0) [] xs).1 = fw at *
  refine ⟨o4, r4, ?_⟩
  unfold lwB
  have q1 : ∀ f : Rho → Hh → Out, ((Sm.par [4, 5, 6] [.inl (Xp.call "_law_asks" F__law_asks [(Xp.v 1), (Xp.c (.int 16)), (Xp.c (.int 6))]), .inl (Xp.bin .Add ((Xp.c (.int 1))).o ((Xp.call "_law_taken" F__law_taken [(Xp.v 1), (Xp.c (.int 5))])).o), .inl (Xp.bin .Add ((Xp.c (.int 1))).o ((Xp.call "_law_taken" F__law_taken [(Xp.v 1), (Xp.c (.int 14))])).o)]).sem (twR ns t .un .un .un .un .un .un) [o]).then f = f (twR ns t (.pl (.tup (xs.map dv))) (.pl (.int (1 + c0))) (.pl (.int (1 + l0))) .un .un .un) [o3] := fun f => by
    unfold twR
    simp [semX, Xa.sem, semA, e1, e2, e3, on2, binE, setsX, slOf]
  have q2 : ∀ f : Rho → Hh → Out, ((Sm.par [7, 8] [.inl (Xp.call "lent" F_lent [(Xp.v 5), (Xp.v 6), (Xp.v 4)]), .inl (Xp.call "fewest_marks" F_fewest_marks [(Xp.v 6), (Xp.v 4)])]).sem (twR ns t (.pl (.tup (xs.map dv))) (.pl (.int (1 + c0))) (.pl (.int (1 + l0))) .un .un .un) [o3]).then f = f (twR ns t (.pl (.tup (xs.map dv))) (.pl (.int (1 + c0))) (.pl (.int (1 + l0))) (.pl (.lst ((runA (1 + c0) (1 + l0) [] xs).1.map dO))) (.pl (.int fw)) .un) [o3] := fun f => by
    unfold twR
    simp [semX, Xa.sem, semA, e4, e5, setsX, slOf]
  have i1 : (Ib.r1 (Xp.bi .len [(Xo.v 4)])).sem (twR ns t (.pl (.tup (xs.map dv))) (.pl (.int (1 + c0))) (.pl (.int (1 + l0))) (.pl (.lst ((runA (1 + c0) (1 + l0) [] xs).1.map dO))) (.pl (.int fw)) .un) [o3] = .ok ((List.range' 0 xs.length).map fun (i : Nat) => D.int (i : Int)) [o3] := by
    exact len_r1 xs hl _ o3 rfl
  have in_tw : inR ns t .un xs (1 + c0) (1 + l0) (runA (1 + c0) (1 + l0) [] xs).1 fw .un .un .un .un = twR ns t (.pl (.tup (xs.map dv))) (.pl (.int (1 + c0))) (.pl (.int (1 + l0))) (.pl (.lst ((runA (1 + c0) (1 + l0) [] xs).1.map dO))) (.pl (.int fw)) .un := rfl
  rw [in_tw] at e8
  rw [ss_s, q1, ss_s, q2, ss_s]
  show (((thS.sem _ _).then (semSs _)) = _)
  rw [e7, then_nx, ss_s, ms_for, i1, st_ok]
  show ((forGo (.n 3) (semSs inB) _ _ _).then _) = _
  rw [e8, then_nx, ss_s]
  show (((endS.sem _ _).then (semSs _)) = _)
  rw [e9, then_nx]
  have k10 : ∀ rest : List Si, semSs (.kill [10] :: rest) (twR ns t (.pl (.tup (xs.map dv))) (.pl (.int (1 + c0))) (.pl (.int (1 + l0))) (.pl (.lst ((runA (1 + c0) (1 + l0) [] xs).1.map dO))) (.pl (.int fw)) s10) [o3] = semSs rest (twR ns t (.pl (.tup (xs.map dv))) (.pl (.int (1 + c0))) (.pl (.int (1 + l0))) (.pl (.lst ((runA (1 + c0) (1 + l0) [] xs).1.map dO))) (.pl (.int fw)) .un) [o3] := fun rest => rfl
  rw [k10, ss_s]
  show (((fiS.sem _ _).then (semSs _)) = _)
  rw [e10, then_nx, ss_s]
  show (((gtS.sem _ _).then (semSs _)) = _)
  rw [e11, then_nx]
  have tr : ∀ (h : Hh) (b : Bool), on1 truE h (.bl b) = some b := fun _ _ => rfl
  unfold twR
  simp [semA, e6, tr, killR]
theorem lw_loop (ns : List Int) : ∀ (ks : List D) (o : D), Row o → ∃ o', Row o' ∧ forGo (.n 2) (semSs lwB) ks (twR ns .un .un .un .un .un .un .un) [o] = .nx (twR ns .un .un .un .un .un .un .un) [o']
  | [], o, ro => ⟨o, ro, rfl⟩
  | k :: ks, o, ro => by
    obtain ⟨o1, r1, e1⟩ := lw_turn ns (.pl k) o ro
    obtain ⟨o2, r2, e2⟩ := lw_loop ns ks o1 r1
    have put : (Tg.n 2).put k (twR ns .un .un .un .un .un .un .un) = some (twR ns (.pl k) .un .un .un .un .un .un) := rfl
    exact ⟨o2, r2, (for_nx' put e1).trans e2⟩
theorem law_true (ns : List Int) (hn : ns.length ≤ 63) : ∃ h', F_law [.lsc (ns.map .int)] [] = .ok (.bl true) h' := by
  have r0 : Row (mkRow ns 0 0 0) := ⟨ns, 0, 0, 0, rfl, by omega, by omega, by omega, by omega, by omega⟩
  obtain ⟨o1, r1, lp⟩ := lw_loop ns ((List.range (4 : Int).toNat).map fun (k : Nat) => D.int (k : Int)) _ r0
  refine ⟨[], pure_of (h' := [o1]) (by simp [nrs, nr, nrs_map D.int (fun _ => rfl)]) rfl rfl ?_⟩
  have st0 : startR 14 [.lsc (ns.map .int)] = [.pl (.lsc (ns.map .int)), .un, .un, .un, .un, .un, .un, .un, .un, .un, .un, .un, .un, .un] := rfl
  unfold ir_law
  have q1 : ∀ f : Rho → Hh → Out, ((Sm.asg (.n 1) (Xp.hp (Xn.lst [(Xp.v 0), (Xp.c (.int 0)), (Xp.c (.int 0)), (Xp.c (.int 0))]))).sem [.pl (.lsc (ns.map .int)), .un, .un, .un, .un, .un, .un, .un, .un, .un, .un, .un, .un, .un] []).then f = f (twR ns .un .un .un .un .un .un .un) [mkRow ns 0 0 0] := fun f => by
    simp [semA, line, Tg.put, mkRow, twR]
  have i1 : ∀ R H, (Ib.r1 (Xp.c (.int 4))).sem R H = .ok ((List.range (4 : Int).toNat).map fun (k : Nat) => D.int (k : Int)) H := fun R H => rfl
  rw [st0, ss_s, q1, ss_s, ms_for, i1, st_ok]
  show outR ((forGo (.n 2) (semSs lwB) _ _ _).then _) = _
  rw [lp, then_nx]
  rfl
end Ev

set_option Elab.async false
set_option linter.all false
set_option maxRecDepth 100000
set_option maxHeartbeats 4000000
namespace Ev
open PySem L2 Pf
def top (i : Nat) : Stmt := PySem.Challenge.pw_manymakers_k50_whole_marks_lent_again.main.body.getD i (.Pass ⟨0, 0, 0, 0⟩)
abbrev st_is_number : Stmt := top 6
theorem sc_is_number : FnScope N_is_number P_is_number (defScope st_is_number) := ⟨rfl, rfl, rfl, by decide +kernel, rfl, by decide +kernel, by decide +kernel⟩
theorem ok_is_number : okSs ir_is_number ⟨N_is_number, defScope st_is_number, false⟩ (defBody st_is_number) = true := by decide +kernel
abbrev st_check_count : Stmt := top 13
theorem sc_check_count : FnScope N_check_count P_check_count (defScope st_check_count) := ⟨rfl, rfl, rfl, by decide +kernel, rfl, by decide +kernel, by decide +kernel⟩
theorem ok_check_count : okSs ir_check_count ⟨N_check_count, defScope st_check_count, false⟩ (defBody st_check_count) = true := by decide +kernel
abbrev st_is_ask : Stmt := top 14
theorem sc_is_ask : FnScope N_is_ask P_is_ask (defScope st_is_ask) := ⟨rfl, rfl, rfl, by decide +kernel, rfl, by decide +kernel, by decide +kernel⟩
theorem ok_is_ask : okSs ir_is_ask ⟨N_is_ask, defScope st_is_ask, false⟩ (defBody st_is_ask) = true := by decide +kernel
abbrev st_check_asks : Stmt := top 15
theorem sc_check_asks : FnScope N_check_asks P_check_asks (defScope st_check_asks) := ⟨rfl, rfl, rfl, by decide +kernel, rfl, by decide +kernel, by decide +kernel⟩
theorem ok_check_asks : okSs ir_check_asks ⟨N_check_asks, defScope st_check_asks, false⟩ (defBody st_check_asks) = true := by decide +kernel
abbrev st_Desk___init__ : Stmt := inClass (top 16) 0
theorem sc_Desk___init__ : FnScope N_Desk___init__ P_Desk___init__ (defScope st_Desk___init__) := ⟨rfl, rfl, rfl, by decide +kernel, rfl, by decide +kernel, by decide +kernel⟩
theorem ok_Desk___init__ : okSs ir_Desk___init__ ⟨N_Desk___init__, defScope st_Desk___init__, false⟩ (defBody st_Desk___init__) = true := by decide +kernel
abbrev st_Desk_ask : Stmt := inClass (top 16) 1
theorem sc_Desk_ask : FnScope N_Desk_ask P_Desk_ask (defScope st_Desk_ask) := ⟨rfl, rfl, rfl, by decide +kernel, rfl, by decide +kernel, by decide +kernel⟩
theorem ok_Desk_ask : okSs ir_Desk_ask ⟨N_Desk_ask, defScope st_Desk_ask, false⟩ (defBody st_Desk_ask) = true := by decide +kernel
abbrev st_marks_of : Stmt := top 17
theorem sc_marks_of : FnScope N_marks_of P_marks_of (defScope st_marks_of) := ⟨rfl, rfl, rfl, by decide +kernel, rfl, by decide +kernel, by decide +kernel⟩
theorem ok_marks_of : okSs ir_marks_of ⟨N_marks_of, defScope st_marks_of, false⟩ (defBody st_marks_of) = true := by decide +kernel
abbrev st_lent : Stmt := top 18
theorem sc_lent : FnScope N_lent P_lent (defScope st_lent) := ⟨rfl, rfl, rfl, by decide +kernel, rfl, by decide +kernel, by decide +kernel⟩
theorem ok_lent : okSs ir_lent ⟨N_lent, defScope st_lent, false⟩ (defBody st_lent) = true := by decide +kernel
abbrev st_holders : Stmt := top 19
theorem sc_holders : FnScope N_holders P_holders (defScope st_holders) := ⟨rfl, rfl, rfl, by decide +kernel, rfl, by decide +kernel, by decide +kernel⟩
theorem ok_holders : okSs ir_holders ⟨N_holders, defScope st_holders, false⟩ (defBody st_holders) = true := by decide +kernel
abbrev st_fewest_marks : Stmt := top 20
theorem sc_fewest_marks : FnScope N_fewest_marks P_fewest_marks (defScope st_fewest_marks) := ⟨rfl, rfl, rfl, by decide +kernel, rfl, by decide +kernel, by decide +kernel⟩
theorem ok_fewest_marks : okSs ir_fewest_marks ⟨N_fewest_marks, defScope st_fewest_marks, false⟩ (defBody st_fewest_marks) = true := by decide +kernel
abbrev st_is_short : Stmt := top 21
theorem sc_is_short : FnScope N_is_short P_is_short (defScope st_is_short) := ⟨rfl, rfl, rfl, by decide +kernel, rfl, by decide +kernel, by decide +kernel⟩
theorem ok_is_short : okSs ir_is_short ⟨N_is_short, defScope st_is_short, false⟩ (defBody st_is_short) = true := by decide +kernel
abbrev st_shortest_length : Stmt := top 22
theorem sc_shortest_length : FnScope N_shortest_length P_shortest_length (defScope st_shortest_length) := ⟨rfl, rfl, rfl, by decide +kernel, rfl, by decide +kernel, by decide +kernel⟩
theorem ok_shortest_length : okSs ir_shortest_length ⟨N_shortest_length, defScope st_shortest_length, false⟩ (defBody st_shortest_length) = true := by decide +kernel
abbrev st__law_taken : Stmt := top 24
theorem sc__law_taken : FnScope N__law_taken P__law_taken (defScope st__law_taken) := ⟨rfl, rfl, rfl, by decide +kernel, rfl, by decide +kernel, by decide +kernel⟩
theorem ok__law_taken : okSs ir__law_taken ⟨N__law_taken, defScope st__law_taken, false⟩ (defBody st__law_taken) = true := by decide +kernel
abbrev st__law_asks : Stmt := top 25
theorem sc__law_asks : FnScope N__law_asks P__law_asks (defScope st__law_asks) := ⟨rfl, rfl, rfl, by decide +kernel, rfl, by decide +kernel, by decide +kernel⟩
theorem ok__law_asks : okSs ir__law_asks ⟨N__law_asks, defScope st__law_asks, false⟩ (defBody st__law_asks) = true := by decide +kernel
abbrev st__law_are_late : Stmt := top 26
theorem sc__law_are_late : FnScope N__law_are_late P__law_are_late (defScope st__law_are_late) := ⟨rfl, rfl, rfl, by decide +kernel, rfl, by decide +kernel, by decide +kernel⟩
theorem ok__law_are_late : okSs ir__law_are_late ⟨N__law_are_late, defScope st__law_are_late, false⟩ (defBody st__law_are_late) = true := by decide +kernel
abbrev st_law : Stmt := top 27
theorem sc_law : FnScope N_law P_law (defScope st_law) := ⟨rfl, rfl, rfl, by decide +kernel, rfl, by decide +kernel, by decide +kernel⟩
theorem ok_law : okSs ir_law ⟨N_law, defScope st_law, false⟩ (defBody st_law) = true := by decide +kernel
structure Txt (K : PySem.W.Frag) (mg : Str → Option Value) (C6 : Addr) : Prop where
  mc6 : mg (nmC 6) = some (.ref C6)
  sc6 : Cls K C6
  mk6 : PySem.W.makesIn K C6 = true
  kc6 : PySem.W.keepIn K (.ref C6) = true
  fl6_17 : NoAttr K C6 (nmF 17)
  fl6_18 : NoAttr K C6 (nmF 18)
  fl6_19 : NoAttr K C6 (nmF 19)
  d_is_number : DefAt K mg "is_number" st_is_number
  d_check_count : DefAt K mg "check_count" st_check_count
  d_is_ask : DefAt K mg "is_ask" st_is_ask
  d_check_asks : DefAt K mg "check_asks" st_check_asks
  d_Desk___init__ : MemAt K C6 "__init__" "Desk.__init__" st_Desk___init__
  d_Desk_ask : MemAt K C6 "ask" "Desk.ask" st_Desk_ask
  d_marks_of : DefAt K mg "marks_of" st_marks_of
  d_lent : DefAt K mg "lent" st_lent
  d_holders : DefAt K mg "holders" st_holders
  d_fewest_marks : DefAt K mg "fewest_marks" st_fewest_marks
  d_is_short : DefAt K mg "is_short" st_is_short
  d_shortest_length : DefAt K mg "shortest_length" st_shortest_length
  d__law_taken : DefAt K mg "_law_taken" st__law_taken
  d__law_asks : DefAt K mg "_law_asks" st__law_asks
  d__law_are_late : DefAt K mg "_law_are_late" st__law_are_late
  d_law : DefAt K mg "law" st_law
  b_bool : mg "bool" = none
  b_enumerate : mg "enumerate" = none
  b_int : mg "int" = none
  b_isinstance : mg "isinstance" = none
  b_len : mg "len" = none
  b_max : mg "max" = none
  b_range : mg "range" = none
  b_set : mg "set" = none
  b_sorted : mg "sorted" = none
  b_tuple : mg "tuple" = none
  b_zip : mg "zip" = none
  g_MAX_TIME : ∀ {P w base k}, GvL ⟨P, w, gx K mg, base, k⟩ "MAX_TIME" (.int 1000000000000000)
  g_MAX_ASKER : ∀ {P w base k}, GvL ⟨P, w, gx K mg, base, k⟩ "MAX_ASKER" (.int 99)
  g_MAX_ASKS : ∀ {P w base k}, GvL ⟨P, w, gx K mg, base, k⟩ "MAX_ASKS" (.int 40)
  g_MAX_COUNT : ∀ {P w base k}, GvL ⟨P, w, gx K mg, base, k⟩ "MAX_COUNT" (.int 9)
  g_MAX_LENGTH : ∀ {P w base k}, GvL ⟨P, w, gx K mg, base, k⟩ "MAX_LENGTH" (.int 1000000000)
section
variable {P : Program} {w : World} {K : PySem.W.Frag} {mg : Str → Option Value} {base : Heap} {j : Nat} {C6 : Addr}
theorem fn_is_number (T : Txt K mg C6) (hj : 3 ≤ j) : FnL ⟨P, w, gx K mg, base, j⟩ "is_number" F_is_number := by
  have nd : needSs ir_is_number ⟨P, w, gx K mg, base, 0⟩ := by
    have b_bool : BtL ⟨P, w, gx K mg, base, 0⟩ "bool" := T.b_bool
    have b_enumerate : BtL ⟨P, w, gx K mg, base, 0⟩ "enumerate" := T.b_enumerate
    have b_int : BtL ⟨P, w, gx K mg, base, 0⟩ "int" := T.b_int
    have b_isinstance : BtL ⟨P, w, gx K mg, base, 0⟩ "isinstance" := T.b_isinstance
    have b_len : BtL ⟨P, w, gx K mg, base, 0⟩ "len" := T.b_len
    have b_max : BtL ⟨P, w, gx K mg, base, 0⟩ "max" := T.b_max
    have b_range : BtL ⟨P, w, gx K mg, base, 0⟩ "range" := T.b_range
    have b_set : BtL ⟨P, w, gx K mg, base, 0⟩ "set" := T.b_set
    have b_sorted : BtL ⟨P, w, gx K mg, base, 0⟩ "sorted" := T.b_sorted
    have b_tuple : BtL ⟨P, w, gx K mg, base, 0⟩ "tuple" := T.b_tuple
    have b_zip : BtL ⟨P, w, gx K mg, base, 0⟩ "zip" := T.b_zip
    have g_MAX_TIME : GvL ⟨P, w, gx K mg, base, 0⟩ "MAX_TIME" (.int 1000000000000000) := T.g_MAX_TIME
    have g_MAX_ASKER : GvL ⟨P, w, gx K mg, base, 0⟩ "MAX_ASKER" (.int 99) := T.g_MAX_ASKER
    have g_MAX_ASKS : GvL ⟨P, w, gx K mg, base, 0⟩ "MAX_ASKS" (.int 40) := T.g_MAX_ASKS
    have g_MAX_COUNT : GvL ⟨P, w, gx K mg, base, 0⟩ "MAX_COUNT" (.int 9) := T.g_MAX_COUNT
    have g_MAX_LENGTH : GvL ⟨P, w, gx K mg, base, 0⟩ "MAX_LENGTH" (.int 1000000000) := T.g_MAX_LENGTH
    have fl6_17 : FldL ⟨P, w, gx K mg, base, 0⟩ 6 17 := fld_pl (t := ⟨P, w, gx K mg, base, 0⟩) (by decide) T.mc6 rfl T.sc6 T.fl6_17
    have fl6_18 : FldL ⟨P, w, gx K mg, base, 0⟩ 6 18 := fld_pl (t := ⟨P, w, gx K mg, base, 0⟩) (by decide) T.mc6 rfl T.sc6 T.fl6_18
    have fl6_19 : FldL ⟨P, w, gx K mg, base, 0⟩ 6 19 := fld_pl (t := ⟨P, w, gx K mg, base, 0⟩) (by decide) T.mc6 rfl T.sc6 T.fl6_19
    simp only [ir_is_number, needSs, needA, needB, needO, needX, needS, needT, needC, needD, nd_Xp_v, nd_Xo_v, nd_Xp_c, nd_Xp_g, nd_Xp_neg, nd_Xp_bin, nd_Xp_cmp, nd_Xt_cmp, nd_Xt_e, nd_Xt_not, nd_Xt_and, nd_Xt_or, nd_Xp_and, nd_Xp_or, nd_Xp_not, nd_Xp_ite, nd_Xp_chain, nd_Xt_chain, nd_Xp_ix, nd_Xp_sl, nd_Xp_tup, nd_Xp_fz, nd_Xp_hp, nd_Xn_lst, nd_Xp_call, nd_Xp_bi, nd_Xn_bi, nd_Xp_isi, nd_Ib_seq, nd_Ib_r1, nd_Ib_r2, nd_Xn_lc, nd_Sm_asg, nd_Sm_asgO, nd_Sm_asgLc, nd_Sm_asgOLc, nd_Sm_ex, nd_Sm_ret, nd_Sm_retN, nd_Sm_pass, nd_Sm_brk, nd_Sm_cont, nd_Sm_nev, nd_Sm_doc, nd_Sm_ife, nd_Sm_for_, nd_Sm_whl, nd_Sm_par, nd_Sm_app, nd_Xp_app, nd_Sm_setO, nd_Sm_setH, nd_Xp_at, nd_Xp_prop, nd_Xp_mc, nd_Sm_setA, nd_Xp_mkF, nd_Xp_mkH, nd_Xp_mul, nd_Xn_rep, nd_Xp_tupS, nd_Xn_lstS, nd_Ib_en, nd_Ib_zip2, nd_Ib_zip3, nd_Sm_tryN, nd_Xn_add, nd_Xp_lenO, nd_Xp_tzip, nd_Xn_sortK, nd_o, nd_al, nd_ar, nd_Xn_dnil, nd_Xn_dor, nd_Xp_dget, nd_Xt_din, nd_Xt_dnin, nd_Sm_dput, nd_Ib_items, nd_Xn_disp1, nd_Xn_dc, nd_Xn_sortD, nd_Sm_parC, nd_Xn_lrng, nd_Xn_sl, nd_Xp_bj, nd_Lst_ife, nd_Xn_lc2, nd_Xp_lenset, nd_Xn_srt, nd_Xp_mkF1, nd_Xp_mkF3, nd_Xn_rev, nd_Xn_disp, nd_Xp_gdef, nd_Xp_nget, nd_Xt_nin, nd_Xt_nnin, nd_Sm_nput, nd_Xn_nnil, nd_Xn_ndisp1, nd_Xp_callv, nd_Lst_ret, nd_Lst_defRet, nd_Lst_lamRet, nd_Ib_nkeys, nd_Xn_nlist, nd_Xn_nsort, nd_Sm_pop, nd_Sm_asgLc2, nd_Xp_ngetd, nd_Xn_sos, nd_Xn_sosL, nd_Xp_lensetI, biName, bnName, bjName, kdName, true_and, and_true]
    try exact trivial
    all_goals (repeat' (with_reducible apply And.intro))
    all_goals first | with_reducible assumption | exact trivial
  exact FnL.pure (gk_gx K mg) (DefAt.fnm (gk_gx K mg) (G := gx K mg) T.d_is_number sc_is_number ok_is_number nd (fun _ _ _ _ _ _ us hl => match us, hl with | [_, _, _], _ => rfl) hj)
theorem fn_check_count (T : Txt K mg C6) (hj : 6 ≤ j) : FnL ⟨P, w, gx K mg, base, j⟩ "check_count" F_check_count := by
  have nd : needSs ir_check_count ⟨P, w, gx K mg, base, 3⟩ := by
    have b_bool : BtL ⟨P, w, gx K mg, base, 3⟩ "bool" := T.b_bool
    have b_enumerate : BtL ⟨P, w, gx K mg, base, 3⟩ "enumerate" := T.b_enumerate
    have b_int : BtL ⟨P, w, gx K mg, base, 3⟩ "int" := T.b_int
    have b_isinstance : BtL ⟨P, w, gx K mg, base, 3⟩ "isinstance" := T.b_isinstance
    have b_len : BtL ⟨P, w, gx K mg, base, 3⟩ "len" := T.b_len
    have b_max : BtL ⟨P, w, gx K mg, base, 3⟩ "max" := T.b_max
    have b_range : BtL ⟨P, w, gx K mg, base, 3⟩ "range" := T.b_range
    have b_set : BtL ⟨P, w, gx K mg, base, 3⟩ "set" := T.b_set
    have b_sorted : BtL ⟨P, w, gx K mg, base, 3⟩ "sorted" := T.b_sorted
    have b_tuple : BtL ⟨P, w, gx K mg, base, 3⟩ "tuple" := T.b_tuple
    have b_zip : BtL ⟨P, w, gx K mg, base, 3⟩ "zip" := T.b_zip
    have g_MAX_TIME : GvL ⟨P, w, gx K mg, base, 3⟩ "MAX_TIME" (.int 1000000000000000) := T.g_MAX_TIME
    have g_MAX_ASKER : GvL ⟨P, w, gx K mg, base, 3⟩ "MAX_ASKER" (.int 99) := T.g_MAX_ASKER
    have g_MAX_ASKS : GvL ⟨P, w, gx K mg, base, 3⟩ "MAX_ASKS" (.int 40) := T.g_MAX_ASKS
    have g_MAX_COUNT : GvL ⟨P, w, gx K mg, base, 3⟩ "MAX_COUNT" (.int 9) := T.g_MAX_COUNT
    have g_MAX_LENGTH : GvL ⟨P, w, gx K mg, base, 3⟩ "MAX_LENGTH" (.int 1000000000) := T.g_MAX_LENGTH
    have fl6_17 : FldL ⟨P, w, gx K mg, base, 3⟩ 6 17 := fld_pl (t := ⟨P, w, gx K mg, base, 3⟩) (by decide) T.mc6 rfl T.sc6 T.fl6_17
    have fl6_18 : FldL ⟨P, w, gx K mg, base, 3⟩ 6 18 := fld_pl (t := ⟨P, w, gx K mg, base, 3⟩) (by decide) T.mc6 rfl T.sc6 T.fl6_18
    have fl6_19 : FldL ⟨P, w, gx K mg, base, 3⟩ 6 19 := fld_pl (t := ⟨P, w, gx K mg, base, 3⟩) (by decide) T.mc6 rfl T.sc6 T.fl6_19
    have f_is_number : FnL ⟨P, w, gx K mg, base, 3⟩ "is_number" F_is_number := fn_is_number T (by decide)
    simp only [ir_check_count, needSs, needA, needB, needO, needX, needS, needT, needC, needD, nd_Xp_v, nd_Xo_v, nd_Xp_c, nd_Xp_g, nd_Xp_neg, nd_Xp_bin, nd_Xp_cmp, nd_Xt_cmp, nd_Xt_e, nd_Xt_not, nd_Xt_and, nd_Xt_or, nd_Xp_and, nd_Xp_or, nd_Xp_not, nd_Xp_ite, nd_Xp_chain, nd_Xt_chain, nd_Xp_ix, nd_Xp_sl, nd_Xp_tup, nd_Xp_fz, nd_Xp_hp, nd_Xn_lst, nd_Xp_call, nd_Xp_bi, nd_Xn_bi, nd_Xp_isi, nd_Ib_seq, nd_Ib_r1, nd_Ib_r2, nd_Xn_lc, nd_Sm_asg, nd_Sm_asgO, nd_Sm_asgLc, nd_Sm_asgOLc, nd_Sm_ex, nd_Sm_ret, nd_Sm_retN, nd_Sm_pass, nd_Sm_brk, nd_Sm_cont, nd_Sm_nev, nd_Sm_doc, nd_Sm_ife, nd_Sm_for_, nd_Sm_whl, nd_Sm_par, nd_Sm_app, nd_Xp_app, nd_Sm_setO, nd_Sm_setH, nd_Xp_at, nd_Xp_prop, nd_Xp_mc, nd_Sm_setA, nd_Xp_mkF, nd_Xp_mkH, nd_Xp_mul, nd_Xn_rep, nd_Xp_tupS, nd_Xn_lstS, nd_Ib_en, nd_Ib_zip2, nd_Ib_zip3, nd_Sm_tryN, nd_Xn_add, nd_Xp_lenO, nd_Xp_tzip, nd_Xn_sortK, nd_o, nd_al, nd_ar, nd_Xn_dnil, nd_Xn_dor, nd_Xp_dget, nd_Xt_din, nd_Xt_dnin, nd_Sm_dput, nd_Ib_items, nd_Xn_disp1, nd_Xn_dc, nd_Xn_sortD, nd_Sm_parC, nd_Xn_lrng, nd_Xn_sl, nd_Xp_bj, nd_Lst_ife, nd_Xn_lc2, nd_Xp_lenset, nd_Xn_srt, nd_Xp_mkF1, nd_Xp_mkF3, nd_Xn_rev, nd_Xn_disp, nd_Xp_gdef, nd_Xp_nget, nd_Xt_nin, nd_Xt_nnin, nd_Sm_nput, nd_Xn_nnil, nd_Xn_ndisp1, nd_Xp_callv, nd_Lst_ret, nd_Lst_defRet, nd_Lst_lamRet, nd_Ib_nkeys, nd_Xn_nlist, nd_Xn_nsort, nd_Sm_pop, nd_Sm_asgLc2, nd_Xp_ngetd, nd_Xn_sos, nd_Xn_sosL, nd_Xp_lensetI, biName, bnName, bjName, kdName, true_and, and_true]
    try exact trivial
    all_goals (repeat' (with_reducible apply And.intro))
    all_goals first | with_reducible assumption | exact trivial
  exact FnL.pure (gk_gx K mg) (DefAt.fnm (gk_gx K mg) (G := gx K mg) T.d_check_count sc_check_count ok_check_count nd (fun _ _ _ _ _ _ us hl => match us, hl with | [_, _], _ => rfl) hj)
theorem fn_is_ask (T : Txt K mg C6) (hj : 6 ≤ j) : FnL ⟨P, w, gx K mg, base, j⟩ "is_ask" F_is_ask := by
  have nd : needSs ir_is_ask ⟨P, w, gx K mg, base, 3⟩ := by
    have b_bool : BtL ⟨P, w, gx K mg, base, 3⟩ "bool" := T.b_bool
    have b_enumerate : BtL ⟨P, w, gx K mg, base, 3⟩ "enumerate" := T.b_enumerate
    have b_int : BtL ⟨P, w, gx K mg, base, 3⟩ "int" := T.b_int
    have b_isinstance : BtL ⟨P, w, gx K mg, base, 3⟩ "isinstance" := T.b_isinstance
    have b_len : BtL ⟨P, w, gx K mg, base, 3⟩ "len" := T.b_len
    have b_max : BtL ⟨P, w, gx K mg, base, 3⟩ "max" := T.b_max
    have b_range : BtL ⟨P, w, gx K mg, base, 3⟩ "range" := T.b_range
    have b_set : BtL ⟨P, w, gx K mg, base, 3⟩ "set" := T.b_set
    have b_sorted : BtL ⟨P, w, gx K mg, base, 3⟩ "sorted" := T.b_sorted
    have b_tuple : BtL ⟨P, w, gx K mg, base, 3⟩ "tuple" := T.b_tuple
    have b_zip : BtL ⟨P, w, gx K mg, base, 3⟩ "zip" := T.b_zip
    have g_MAX_TIME : GvL ⟨P, w, gx K mg, base, 3⟩ "MAX_TIME" (.int 1000000000000000) := T.g_MAX_TIME
    have g_MAX_ASKER : GvL ⟨P, w, gx K mg, base, 3⟩ "MAX_ASKER" (.int 99) := T.g_MAX_ASKER
    have g_MAX_ASKS : GvL ⟨P, w, gx K mg, base, 3⟩ "MAX_ASKS" (.int 40) := T.g_MAX_ASKS
    have g_MAX_COUNT : GvL ⟨P, w, gx K mg, base, 3⟩ "MAX_COUNT" (.int 9) := T.g_MAX_COUNT
    have g_MAX_LENGTH : GvL ⟨P, w, gx K mg, base, 3⟩ "MAX_LENGTH" (.int 1000000000) := T.g_MAX_LENGTH
    have fl6_17 : FldL ⟨P, w, gx K mg, base, 3⟩ 6 17 := fld_pl (t := ⟨P, w, gx K mg, base, 3⟩) (by decide) T.mc6 rfl T.sc6 T.fl6_17
    have fl6_18 : FldL ⟨P, w, gx K mg, base, 3⟩ 6 18 := fld_pl (t := ⟨P, w, gx K mg, base, 3⟩) (by decide) T.mc6 rfl T.sc6 T.fl6_18
    have fl6_19 : FldL ⟨P, w, gx K mg, base, 3⟩ 6 19 := fld_pl (t := ⟨P, w, gx K mg, base, 3⟩) (by decide) T.mc6 rfl T.sc6 T.fl6_19
    have f_is_number : FnL ⟨P, w, gx K mg, base, 3⟩ "is_number" F_is_number := fn_is_number T (by decide)
    simp only [ir_is_ask, needSs, needA, needB, needO, needX, needS, needT, needC, needD, nd_Xp_v, nd_Xo_v, nd_Xp_c, nd_Xp_g, nd_Xp_neg, nd_Xp_bin, nd_Xp_cmp, nd_Xt_cmp, nd_Xt_e, nd_Xt_not, nd_Xt_and, nd_Xt_or, nd_Xp_and, nd_Xp_or, nd_Xp_not, nd_Xp_ite, nd_Xp_chain, nd_Xt_chain, nd_Xp_ix, nd_Xp_sl, nd_Xp_tup, nd_Xp_fz, nd_Xp_hp, nd_Xn_lst, nd_Xp_call, nd_Xp_bi, nd_Xn_bi, nd_Xp_isi, nd_Ib_seq, nd_Ib_r1, nd_Ib_r2, nd_Xn_lc, nd_Sm_asg, nd_Sm_asgO, nd_Sm_asgLc, nd_Sm_asgOLc, nd_Sm_ex, nd_Sm_ret, nd_Sm_retN, nd_Sm_pass, nd_Sm_brk, nd_Sm_cont, nd_Sm_nev, nd_Sm_doc, nd_Sm_ife, nd_Sm_for_, nd_Sm_whl, nd_Sm_par, nd_Sm_app, nd_Xp_app, nd_Sm_setO, nd_Sm_setH, nd_Xp_at, nd_Xp_prop, nd_Xp_mc, nd_Sm_setA, nd_Xp_mkF, nd_Xp_mkH, nd_Xp_mul, nd_Xn_rep, nd_Xp_tupS, nd_Xn_lstS, nd_Ib_en, nd_Ib_zip2, nd_Ib_zip3, nd_Sm_tryN, nd_Xn_add, nd_Xp_lenO, nd_Xp_tzip, nd_Xn_sortK, nd_o, nd_al, nd_ar, nd_Xn_dnil, nd_Xn_dor, nd_Xp_dget, nd_Xt_din, nd_Xt_dnin, nd_Sm_dput, nd_Ib_items, nd_Xn_disp1, nd_Xn_dc, nd_Xn_sortD, nd_Sm_parC, nd_Xn_lrng, nd_Xn_sl, nd_Xp_bj, nd_Lst_ife, nd_Xn_lc2, nd_Xp_lenset, nd_Xn_srt, nd_Xp_mkF1, nd_Xp_mkF3, nd_Xn_rev, nd_Xn_disp, nd_Xp_gdef, nd_Xp_nget, nd_Xt_nin, nd_Xt_nnin, nd_Sm_nput, nd_Xn_nnil, nd_Xn_ndisp1, nd_Xp_callv, nd_Lst_ret, nd_Lst_defRet, nd_Lst_lamRet, nd_Ib_nkeys, nd_Xn_nlist, nd_Xn_nsort, nd_Sm_pop, nd_Sm_asgLc2, nd_Xp_ngetd, nd_Xn_sos, nd_Xn_sosL, nd_Xp_lensetI, biName, bnName, bjName, kdName, true_and, and_true]
    try exact trivial
    all_goals (repeat' (with_reducible apply And.intro))
    all_goals first | with_reducible assumption | exact trivial
  exact FnL.pure (gk_gx K mg) (DefAt.fnm (gk_gx K mg) (G := gx K mg) T.d_is_ask sc_is_ask ok_is_ask nd (fun _ _ _ _ _ _ us hl => match us, hl with | [_], _ => rfl) hj)
theorem fn_check_asks (T : Txt K mg C6) (hj : 9 ≤ j) : FnL ⟨P, w, gx K mg, base, j⟩ "check_asks" F_check_asks := by
  have nd : needSs ir_check_asks ⟨P, w, gx K mg, base, 6⟩ := by
    have b_bool : BtL ⟨P, w, gx K mg, base, 6⟩ "bool" := T.b_bool
    have b_enumerate : BtL ⟨P, w, gx K mg, base, 6⟩ "enumerate" := T.b_enumerate
    have b_int : BtL ⟨P, w, gx K mg, base, 6⟩ "int" := T.b_int
    have b_isinstance : BtL ⟨P, w, gx K mg, base, 6⟩ "isinstance" := T.b_isinstance
    have b_len : BtL ⟨P, w, gx K mg, base, 6⟩ "len" := T.b_len
    have b_max : BtL ⟨P, w, gx K mg, base, 6⟩ "max" := T.b_max
    have b_range : BtL ⟨P, w, gx K mg, base, 6⟩ "range" := T.b_range
    have b_set : BtL ⟨P, w, gx K mg, base, 6⟩ "set" := T.b_set
    have b_sorted : BtL ⟨P, w, gx K mg, base, 6⟩ "sorted" := T.b_sorted
    have b_tuple : BtL ⟨P, w, gx K mg, base, 6⟩ "tuple" := T.b_tuple
    have b_zip : BtL ⟨P, w, gx K mg, base, 6⟩ "zip" := T.b_zip
    have g_MAX_TIME : GvL ⟨P, w, gx K mg, base, 6⟩ "MAX_TIME" (.int 1000000000000000) := T.g_MAX_TIME
    have g_MAX_ASKER : GvL ⟨P, w, gx K mg, base, 6⟩ "MAX_ASKER" (.int 99) := T.g_MAX_ASKER
    have g_MAX_ASKS : GvL ⟨P, w, gx K mg, base, 6⟩ "MAX_ASKS" (.int 40) := T.g_MAX_ASKS
    have g_MAX_COUNT : GvL ⟨P, w, gx K mg, base, 6⟩ "MAX_COUNT" (.int 9) := T.g_MAX_COUNT
    have g_MAX_LENGTH : GvL ⟨P, w, gx K mg, base, 6⟩ "MAX_LENGTH" (.int 1000000000) := T.g_MAX_LENGTH
    have fl6_17 : FldL ⟨P, w, gx K mg, base, 6⟩ 6 17 := fld_pl (t := ⟨P, w, gx K mg, base, 6⟩) (by decide) T.mc6 rfl T.sc6 T.fl6_17
    have fl6_18 : FldL ⟨P, w, gx K mg, base, 6⟩ 6 18 := fld_pl (t := ⟨P, w, gx K mg, base, 6⟩) (by decide) T.mc6 rfl T.sc6 T.fl6_18
    have fl6_19 : FldL ⟨P, w, gx K mg, base, 6⟩ 6 19 := fld_pl (t := ⟨P, w, gx K mg, base, 6⟩) (by decide) T.mc6 rfl T.sc6 T.fl6_19
    have f_is_ask : FnL ⟨P, w, gx K mg, base, 6⟩ "is_ask" F_is_ask := fn_is_ask T (by decide)
    simp only [ir_check_asks, needSs, needA, needB, needO, needX, needS, needT, needC, needD, nd_Xp_v, nd_Xo_v, nd_Xp_c, nd_Xp_g, nd_Xp_neg, nd_Xp_bin, nd_Xp_cmp, nd_Xt_cmp, nd_Xt_e, nd_Xt_not, nd_Xt_and, nd_Xt_or, nd_Xp_and, nd_Xp_or, nd_Xp_not, nd_Xp_ite, nd_Xp_chain, nd_Xt_chain, nd_Xp_ix, nd_Xp_sl, nd_Xp_tup, nd_Xp_fz, nd_Xp_hp, nd_Xn_lst, nd_Xp_call, nd_Xp_bi, nd_Xn_bi, nd_Xp_isi, nd_Ib_seq, nd_Ib_r1, nd_Ib_r2, nd_Xn_lc, nd_Sm_asg, nd_Sm_asgO, nd_Sm_asgLc, nd_Sm_asgOLc, nd_Sm_ex, nd_Sm_ret, nd_Sm_retN, nd_Sm_pass, nd_Sm_brk, nd_Sm_cont, nd_Sm_nev, nd_Sm_doc, nd_Sm_ife, nd_Sm_for_, nd_Sm_whl, nd_Sm_par, nd_Sm_app, nd_Xp_app, nd_Sm_setO, nd_Sm_setH, nd_Xp_at, nd_Xp_prop, nd_Xp_mc, nd_Sm_setA, nd_Xp_mkF, nd_Xp_mkH, nd_Xp_mul, nd_Xn_rep, nd_Xp_tupS, nd_Xn_lstS, nd_Ib_en, nd_Ib_zip2, nd_Ib_zip3, nd_Sm_tryN, nd_Xn_add, nd_Xp_lenO, nd_Xp_tzip, nd_Xn_sortK, nd_o, nd_al, nd_ar, nd_Xn_dnil, nd_Xn_dor, nd_Xp_dget, nd_Xt_din, nd_Xt_dnin, nd_Sm_dput, nd_Ib_items, nd_Xn_disp1, nd_Xn_dc, nd_Xn_sortD, nd_Sm_parC, nd_Xn_lrng, nd_Xn_sl, nd_Xp_bj, nd_Lst_ife, nd_Xn_lc2, nd_Xp_lenset, nd_Xn_srt, nd_Xp_mkF1, nd_Xp_mkF3, nd_Xn_rev, nd_Xn_disp, nd_Xp_gdef, nd_Xp_nget, nd_Xt_nin, nd_Xt_nnin, nd_Sm_nput, nd_Xn_nnil, nd_Xn_ndisp1, nd_Xp_callv, nd_Lst_ret, nd_Lst_defRet, nd_Lst_lamRet, nd_Ib_nkeys, nd_Xn_nlist, nd_Xn_nsort, nd_Sm_pop, nd_Sm_asgLc2, nd_Xp_ngetd, nd_Xn_sos, nd_Xn_sosL, nd_Xp_lensetI, biName, bnName, bjName, kdName, true_and, and_true]
    try exact trivial
    all_goals (repeat' (with_reducible apply And.intro))
    all_goals first | with_reducible assumption | exact trivial
  exact FnL.pure (gk_gx K mg) (DefAt.fnm (gk_gx K mg) (G := gx K mg) T.d_check_asks sc_check_asks ok_check_asks nd (fun _ _ _ _ _ _ us hl => match us, hl with | [_], _ => rfl) hj)
theorem fn_Desk___init__ (T : Txt K mg C6) (hj : 3 ≤ j) : MkL ⟨P, w, gx K mg, base, j⟩ 6 F_Desk___init__ := by
  have nd : needSs ir_Desk___init__ ⟨P, w, gx K mg, base, 0⟩ := by
    have b_bool : BtL ⟨P, w, gx K mg, base, 0⟩ "bool" := T.b_bool
    have b_enumerate : BtL ⟨P, w, gx K mg, base, 0⟩ "enumerate" := T.b_enumerate
    have b_int : BtL ⟨P, w, gx K mg, base, 0⟩ "int" := T.b_int
    have b_isinstance : BtL ⟨P, w, gx K mg, base, 0⟩ "isinstance" := T.b_isinstance
    have b_len : BtL ⟨P, w, gx K mg, base, 0⟩ "len" := T.b_len
    have b_max : BtL ⟨P, w, gx K mg, base, 0⟩ "max" := T.b_max
    have b_range : BtL ⟨P, w, gx K mg, base, 0⟩ "range" := T.b_range
    have b_set : BtL ⟨P, w, gx K mg, base, 0⟩ "set" := T.b_set
    have b_sorted : BtL ⟨P, w, gx K mg, base, 0⟩ "sorted" := T.b_sorted
    have b_tuple : BtL ⟨P, w, gx K mg, base, 0⟩ "tuple" := T.b_tuple
    have b_zip : BtL ⟨P, w, gx K mg, base, 0⟩ "zip" := T.b_zip
    have g_MAX_TIME : GvL ⟨P, w, gx K mg, base, 0⟩ "MAX_TIME" (.int 1000000000000000) := T.g_MAX_TIME
    have g_MAX_ASKER : GvL ⟨P, w, gx K mg, base, 0⟩ "MAX_ASKER" (.int 99) := T.g_MAX_ASKER
    have g_MAX_ASKS : GvL ⟨P, w, gx K mg, base, 0⟩ "MAX_ASKS" (.int 40) := T.g_MAX_ASKS
    have g_MAX_COUNT : GvL ⟨P, w, gx K mg, base, 0⟩ "MAX_COUNT" (.int 9) := T.g_MAX_COUNT
    have g_MAX_LENGTH : GvL ⟨P, w, gx K mg, base, 0⟩ "MAX_LENGTH" (.int 1000000000) := T.g_MAX_LENGTH
    have fl6_17 : FldL ⟨P, w, gx K mg, base, 0⟩ 6 17 := fld_pl (t := ⟨P, w, gx K mg, base, 0⟩) (by decide) T.mc6 rfl T.sc6 T.fl6_17
    have fl6_18 : FldL ⟨P, w, gx K mg, base, 0⟩ 6 18 := fld_pl (t := ⟨P, w, gx K mg, base, 0⟩) (by decide) T.mc6 rfl T.sc6 T.fl6_18
    have fl6_19 : FldL ⟨P, w, gx K mg, base, 0⟩ 6 19 := fld_pl (t := ⟨P, w, gx K mg, base, 0⟩) (by decide) T.mc6 rfl T.sc6 T.fl6_19
    simp only [ir_Desk___init__, needSs, needA, needB, needO, needX, needS, needT, needC, needD, nd_Xp_v, nd_Xo_v, nd_Xp_c, nd_Xp_g, nd_Xp_neg, nd_Xp_bin, nd_Xp_cmp, nd_Xt_cmp, nd_Xt_e, nd_Xt_not, nd_Xt_and, nd_Xt_or, nd_Xp_and, nd_Xp_or, nd_Xp_not, nd_Xp_ite, nd_Xp_chain, nd_Xt_chain, nd_Xp_ix, nd_Xp_sl, nd_Xp_tup, nd_Xp_fz, nd_Xp_hp, nd_Xn_lst, nd_Xp_call, nd_Xp_bi, nd_Xn_bi, nd_Xp_isi, nd_Ib_seq, nd_Ib_r1, nd_Ib_r2, nd_Xn_lc, nd_Sm_asg, nd_Sm_asgO, nd_Sm_asgLc, nd_Sm_asgOLc, nd_Sm_ex, nd_Sm_ret, nd_Sm_retN, nd_Sm_pass, nd_Sm_brk, nd_Sm_cont, nd_Sm_nev, nd_Sm_doc, nd_Sm_ife, nd_Sm_for_, nd_Sm_whl, nd_Sm_par, nd_Sm_app, nd_Xp_app, nd_Sm_setO, nd_Sm_setH, nd_Xp_at, nd_Xp_prop, nd_Xp_mc, nd_Sm_setA, nd_Xp_mkF, nd_Xp_mkH, nd_Xp_mul, nd_Xn_rep, nd_Xp_tupS, nd_Xn_lstS, nd_Ib_en, nd_Ib_zip2, nd_Ib_zip3, nd_Sm_tryN, nd_Xn_add, nd_Xp_lenO, nd_Xp_tzip, nd_Xn_sortK, nd_o, nd_al, nd_ar, nd_Xn_dnil, nd_Xn_dor, nd_Xp_dget, nd_Xt_din, nd_Xt_dnin, nd_Sm_dput, nd_Ib_items, nd_Xn_disp1, nd_Xn_dc, nd_Xn_sortD, nd_Sm_parC, nd_Xn_lrng, nd_Xn_sl, nd_Xp_bj, nd_Lst_ife, nd_Xn_lc2, nd_Xp_lenset, nd_Xn_srt, nd_Xp_mkF1, nd_Xp_mkF3, nd_Xn_rev, nd_Xn_disp, nd_Xp_gdef, nd_Xp_nget, nd_Xt_nin, nd_Xt_nnin, nd_Sm_nput, nd_Xn_nnil, nd_Xn_ndisp1, nd_Xp_callv, nd_Lst_ret, nd_Lst_defRet, nd_Lst_lamRet, nd_Ib_nkeys, nd_Xn_nlist, nd_Xn_nsort, nd_Sm_pop, nd_Sm_asgLc2, nd_Xp_ngetd, nd_Xn_sos, nd_Xn_sosL, nd_Xp_lensetI, biName, bnName, bjName, kdName, true_and, and_true]
    try exact trivial
    all_goals (repeat' (with_reducible apply And.intro))
    all_goals first | with_reducible assumption | exact trivial
  exact MemAt.mkL (gk_gx K mg) (G := gx K mg) T.d_Desk___init__ T.mc6 T.mk6 T.kc6 sc_Desk___init__ ok_Desk___init__ nd (fun _ _ _ _ _ _ us hl => match us, hl with | [_, _, _], _ => rfl) hj
theorem fn_Desk_ask (T : Txt K mg C6) (hj : 3 ≤ j) : MethL ⟨P, w, gx K mg, base, j⟩ 6 "ask" F_Desk_ask := by
  have nd : needSs ir_Desk_ask ⟨P, w, gx K mg, base, 0⟩ := by
    have b_bool : BtL ⟨P, w, gx K mg, base, 0⟩ "bool" := T.b_bool
    have b_enumerate : BtL ⟨P, w, gx K mg, base, 0⟩ "enumerate" := T.b_enumerate
    have b_int : BtL ⟨P, w, gx K mg, base, 0⟩ "int" := T.b_int
    have b_isinstance : BtL ⟨P, w, gx K mg, base, 0⟩ "isinstance" := T.b_isinstance
    have b_len : BtL ⟨P, w, gx K mg, base, 0⟩ "len" := T.b_len
    have b_max : BtL ⟨P, w, gx K mg, base, 0⟩ "max" := T.b_max
    have b_range : BtL ⟨P, w, gx K mg, base, 0⟩ "range" := T.b_range
    have b_set : BtL ⟨P, w, gx K mg, base, 0⟩ "set" := T.b_set
    have b_sorted : BtL ⟨P, w, gx K mg, base, 0⟩ "sorted" := T.b_sorted
    have b_tuple : BtL ⟨P, w, gx K mg, base, 0⟩ "tuple" := T.b_tuple
    have b_zip : BtL ⟨P, w, gx K mg, base, 0⟩ "zip" := T.b_zip
    have g_MAX_TIME : GvL ⟨P, w, gx K mg, base, 0⟩ "MAX_TIME" (.int 1000000000000000) := T.g_MAX_TIME
    have g_MAX_ASKER : GvL ⟨P, w, gx K mg, base, 0⟩ "MAX_ASKER" (.int 99) := T.g_MAX_ASKER
    have g_MAX_ASKS : GvL ⟨P, w, gx K mg, base, 0⟩ "MAX_ASKS" (.int 40) := T.g_MAX_ASKS
    have g_MAX_COUNT : GvL ⟨P, w, gx K mg, base, 0⟩ "MAX_COUNT" (.int 9) := T.g_MAX_COUNT
    have g_MAX_LENGTH : GvL ⟨P, w, gx K mg, base, 0⟩ "MAX_LENGTH" (.int 1000000000) := T.g_MAX_LENGTH
    have fl6_17 : FldL ⟨P, w, gx K mg, base, 0⟩ 6 17 := fld_pl (t := ⟨P, w, gx K mg, base, 0⟩) (by decide) T.mc6 rfl T.sc6 T.fl6_17
    have fl6_18 : FldL ⟨P, w, gx K mg, base, 0⟩ 6 18 := fld_pl (t := ⟨P, w, gx K mg, base, 0⟩) (by decide) T.mc6 rfl T.sc6 T.fl6_18
    have fl6_19 : FldL ⟨P, w, gx K mg, base, 0⟩ 6 19 := fld_pl (t := ⟨P, w, gx K mg, base, 0⟩) (by decide) T.mc6 rfl T.sc6 T.fl6_19
    simp only [ir_Desk_ask, needSs, needA, needB, needO, needX, needS, needT, needC, needD, nd_Xp_v, nd_Xo_v, nd_Xp_c, nd_Xp_g, nd_Xp_neg, nd_Xp_bin, nd_Xp_cmp, nd_Xt_cmp, nd_Xt_e, nd_Xt_not, nd_Xt_and, nd_Xt_or, nd_Xp_and, nd_Xp_or, nd_Xp_not, nd_Xp_ite, nd_Xp_chain, nd_Xt_chain, nd_Xp_ix, nd_Xp_sl, nd_Xp_tup, nd_Xp_fz, nd_Xp_hp, nd_Xn_lst, nd_Xp_call, nd_Xp_bi, nd_Xn_bi, nd_Xp_isi, nd_Ib_seq, nd_Ib_r1, nd_Ib_r2, nd_Xn_lc, nd_Sm_asg, nd_Sm_asgO, nd_Sm_asgLc, nd_Sm_asgOLc, nd_Sm_ex, nd_Sm_ret, nd_Sm_retN, nd_Sm_pass, nd_Sm_brk, nd_Sm_cont, nd_Sm_nev, nd_Sm_doc, nd_Sm_ife, nd_Sm_for_, nd_Sm_whl, nd_Sm_par, nd_Sm_app, nd_Xp_app, nd_Sm_setO, nd_Sm_setH, nd_Xp_at, nd_Xp_prop, nd_Xp_mc, nd_Sm_setA, nd_Xp_mkF, nd_Xp_mkH, nd_Xp_mul, nd_Xn_rep, nd_Xp_tupS, nd_Xn_lstS, nd_Ib_en, nd_Ib_zip2, nd_Ib_zip3, nd_Sm_tryN, nd_Xn_add, nd_Xp_lenO, nd_Xp_tzip, nd_Xn_sortK, nd_o, nd_al, nd_ar, nd_Xn_dnil, nd_Xn_dor, nd_Xp_dget, nd_Xt_din, nd_Xt_dnin, nd_Sm_dput, nd_Ib_items, nd_Xn_disp1, nd_Xn_dc, nd_Xn_sortD, nd_Sm_parC, nd_Xn_lrng, nd_Xn_sl, nd_Xp_bj, nd_Lst_ife, nd_Xn_lc2, nd_Xp_lenset, nd_Xn_srt, nd_Xp_mkF1, nd_Xp_mkF3, nd_Xn_rev, nd_Xn_disp, nd_Xp_gdef, nd_Xp_nget, nd_Xt_nin, nd_Xt_nnin, nd_Sm_nput, nd_Xn_nnil, nd_Xn_ndisp1, nd_Xp_callv, nd_Lst_ret, nd_Lst_defRet, nd_Lst_lamRet, nd_Ib_nkeys, nd_Xn_nlist, nd_Xn_nsort, nd_Sm_pop, nd_Sm_asgLc2, nd_Xp_ngetd, nd_Xn_sos, nd_Xn_sosL, nd_Xp_lensetI, biName, bnName, bjName, kdName, true_and, and_true]
    try exact trivial
    all_goals (repeat' (with_reducible apply And.intro))
    all_goals first | with_reducible assumption | exact trivial
  exact MemAt.methL (gk_gx K mg) (G := gx K mg) T.d_Desk_ask T.mc6 rfl T.sc6 sc_Desk_ask ok_Desk_ask nd (fun _ _ _ _ _ _ us hl => match us, hl with | [_, _, _], _ => rfl) hj
theorem fn_marks_of (T : Txt K mg C6) (hj : 6 ≤ j) : FnL ⟨P, w, gx K mg, base, j⟩ "marks_of" F_marks_of := by
  have nd : needSs ir_marks_of ⟨P, w, gx K mg, base, 3⟩ := by
    have b_bool : BtL ⟨P, w, gx K mg, base, 3⟩ "bool" := T.b_bool
    have b_enumerate : BtL ⟨P, w, gx K mg, base, 3⟩ "enumerate" := T.b_enumerate
    have b_int : BtL ⟨P, w, gx K mg, base, 3⟩ "int" := T.b_int
    have b_isinstance : BtL ⟨P, w, gx K mg, base, 3⟩ "isinstance" := T.b_isinstance
    have b_len : BtL ⟨P, w, gx K mg, base, 3⟩ "len" := T.b_len
    have b_max : BtL ⟨P, w, gx K mg, base, 3⟩ "max" := T.b_max
    have b_range : BtL ⟨P, w, gx K mg, base, 3⟩ "range" := T.b_range
    have b_set : BtL ⟨P, w, gx K mg, base, 3⟩ "set" := T.b_set
    have b_sorted : BtL ⟨P, w, gx K mg, base, 3⟩ "sorted" := T.b_sorted
    have b_tuple : BtL ⟨P, w, gx K mg, base, 3⟩ "tuple" := T.b_tuple
    have b_zip : BtL ⟨P, w, gx K mg, base, 3⟩ "zip" := T.b_zip
    have g_MAX_TIME : GvL ⟨P, w, gx K mg, base, 3⟩ "MAX_TIME" (.int 1000000000000000) := T.g_MAX_TIME
    have g_MAX_ASKER : GvL ⟨P, w, gx K mg, base, 3⟩ "MAX_ASKER" (.int 99) := T.g_MAX_ASKER
    have g_MAX_ASKS : GvL ⟨P, w, gx K mg, base, 3⟩ "MAX_ASKS" (.int 40) := T.g_MAX_ASKS
    have g_MAX_COUNT : GvL ⟨P, w, gx K mg, base, 3⟩ "MAX_COUNT" (.int 9) := T.g_MAX_COUNT
    have g_MAX_LENGTH : GvL ⟨P, w, gx K mg, base, 3⟩ "MAX_LENGTH" (.int 1000000000) := T.g_MAX_LENGTH
    have fl6_17 : FldL ⟨P, w, gx K mg, base, 3⟩ 6 17 := fld_pl (t := ⟨P, w, gx K mg, base, 3⟩) (by decide) T.mc6 rfl T.sc6 T.fl6_17
    have fl6_18 : FldL ⟨P, w, gx K mg, base, 3⟩ 6 18 := fld_pl (t := ⟨P, w, gx K mg, base, 3⟩) (by decide) T.mc6 rfl T.sc6 T.fl6_18
    have fl6_19 : FldL ⟨P, w, gx K mg, base, 3⟩ 6 19 := fld_pl (t := ⟨P, w, gx K mg, base, 3⟩) (by decide) T.mc6 rfl T.sc6 T.fl6_19
    have f_Desk___init__ : MkL ⟨P, w, gx K mg, base, 3⟩ 6 F_Desk___init__ := fn_Desk___init__ T (by decide)
    have f_Desk_ask : MethL ⟨P, w, gx K mg, base, 3⟩ 6 "ask" F_Desk_ask := fn_Desk_ask T (by decide)
    simp only [ir_marks_of, needSs, needA, needB, needO, needX, needS, needT, needC, needD, nd_Xp_v, nd_Xo_v, nd_Xp_c, nd_Xp_g, nd_Xp_neg, nd_Xp_bin, nd_Xp_cmp, nd_Xt_cmp, nd_Xt_e, nd_Xt_not, nd_Xt_and, nd_Xt_or, nd_Xp_and, nd_Xp_or, nd_Xp_not, nd_Xp_ite, nd_Xp_chain, nd_Xt_chain, nd_Xp_ix, nd_Xp_sl, nd_Xp_tup, nd_Xp_fz, nd_Xp_hp, nd_Xn_lst, nd_Xp_call, nd_Xp_bi, nd_Xn_bi, nd_Xp_isi, nd_Ib_seq, nd_Ib_r1, nd_Ib_r2, nd_Xn_lc, nd_Sm_asg, nd_Sm_asgO, nd_Sm_asgLc, nd_Sm_asgOLc, nd_Sm_ex, nd_Sm_ret, nd_Sm_retN, nd_Sm_pass, nd_Sm_brk, nd_Sm_cont, nd_Sm_nev, nd_Sm_doc, nd_Sm_ife, nd_Sm_for_, nd_Sm_whl, nd_Sm_par, nd_Sm_app, nd_Xp_app, nd_Sm_setO, nd_Sm_setH, nd_Xp_at, nd_Xp_prop, nd_Xp_mc, nd_Sm_setA, nd_Xp_mkF, nd_Xp_mkH, nd_Xp_mul, nd_Xn_rep, nd_Xp_tupS, nd_Xn_lstS, nd_Ib_en, nd_Ib_zip2, nd_Ib_zip3, nd_Sm_tryN, nd_Xn_add, nd_Xp_lenO, nd_Xp_tzip, nd_Xn_sortK, nd_o, nd_al, nd_ar, nd_Xn_dnil, nd_Xn_dor, nd_Xp_dget, nd_Xt_din, nd_Xt_dnin, nd_Sm_dput, nd_Ib_items, nd_Xn_disp1, nd_Xn_dc, nd_Xn_sortD, nd_Sm_parC, nd_Xn_lrng, nd_Xn_sl, nd_Xp_bj, nd_Lst_ife, nd_Xn_lc2, nd_Xp_lenset, nd_Xn_srt, nd_Xp_mkF1, nd_Xp_mkF3, nd_Xn_rev, nd_Xn_disp, nd_Xp_gdef, nd_Xp_nget, nd_Xt_nin, nd_Xt_nnin, nd_Sm_nput, nd_Xn_nnil, nd_Xn_ndisp1, nd_Xp_callv, nd_Lst_ret, nd_Lst_defRet, nd_Lst_lamRet, nd_Ib_nkeys, nd_Xn_nlist, nd_Xn_nsort, nd_Sm_pop, nd_Sm_asgLc2, nd_Xp_ngetd, nd_Xn_sos, nd_Xn_sosL, nd_Xp_lensetI, biName, bnName, bjName, kdName, true_and, and_true]
    try exact trivial
    all_goals (repeat' (with_reducible apply And.intro))
    all_goals first | with_reducible assumption | exact trivial
  exact FnL.pure (gk_gx K mg) (DefAt.fnm (gk_gx K mg) (G := gx K mg) T.d_marks_of sc_marks_of ok_marks_of nd (fun _ _ _ _ _ _ us hl => match us, hl with | [_, _, _], _ => rfl) hj)
theorem fn_lent (T : Txt K mg C6) (hj : 12 ≤ j) : FnL ⟨P, w, gx K mg, base, j⟩ "lent" F_lent := by
  have nd : needSs ir_lent ⟨P, w, gx K mg, base, 9⟩ := by
    have b_bool : BtL ⟨P, w, gx K mg, base, 9⟩ "bool" := T.b_bool
    have b_enumerate : BtL ⟨P, w, gx K mg, base, 9⟩ "enumerate" := T.b_enumerate
    have b_int : BtL ⟨P, w, gx K mg, base, 9⟩ "int" := T.b_int
    have b_isinstance : BtL ⟨P, w, gx K mg, base, 9⟩ "isinstance" := T.b_isinstance
    have b_len : BtL ⟨P, w, gx K mg, base, 9⟩ "len" := T.b_len
    have b_max : BtL ⟨P, w, gx K mg, base, 9⟩ "max" := T.b_max
    have b_range : BtL ⟨P, w, gx K mg, base, 9⟩ "range" := T.b_range
    have b_set : BtL ⟨P, w, gx K mg, base, 9⟩ "set" := T.b_set
    have b_sorted : BtL ⟨P, w, gx K mg, base, 9⟩ "sorted" := T.b_sorted
    have b_tuple : BtL ⟨P, w, gx K mg, base, 9⟩ "tuple" := T.b_tuple
    have b_zip : BtL ⟨P, w, gx K mg, base, 9⟩ "zip" := T.b_zip
    have g_MAX_TIME : GvL ⟨P, w, gx K mg, base, 9⟩ "MAX_TIME" (.int 1000000000000000) := T.g_MAX_TIME
    have g_MAX_ASKER : GvL ⟨P, w, gx K mg, base, 9⟩ "MAX_ASKER" (.int 99) := T.g_MAX_ASKER
    have g_MAX_ASKS : GvL ⟨P, w, gx K mg, base, 9⟩ "MAX_ASKS" (.int 40) := T.g_MAX_ASKS
    have g_MAX_COUNT : GvL ⟨P, w, gx K mg, base, 9⟩ "MAX_COUNT" (.int 9) := T.g_MAX_COUNT
    have g_MAX_LENGTH : GvL ⟨P, w, gx K mg, base, 9⟩ "MAX_LENGTH" (.int 1000000000) := T.g_MAX_LENGTH
    have fl6_17 : FldL ⟨P, w, gx K mg, base, 9⟩ 6 17 := fld_pl (t := ⟨P, w, gx K mg, base, 9⟩) (by decide) T.mc6 rfl T.sc6 T.fl6_17
    have fl6_18 : FldL ⟨P, w, gx K mg, base, 9⟩ 6 18 := fld_pl (t := ⟨P, w, gx K mg, base, 9⟩) (by decide) T.mc6 rfl T.sc6 T.fl6_18
    have fl6_19 : FldL ⟨P, w, gx K mg, base, 9⟩ 6 19 := fld_pl (t := ⟨P, w, gx K mg, base, 9⟩) (by decide) T.mc6 rfl T.sc6 T.fl6_19
    have f_check_count : FnL ⟨P, w, gx K mg, base, 9⟩ "check_count" F_check_count := fn_check_count T (by decide)
    have f_check_asks : FnL ⟨P, w, gx K mg, base, 9⟩ "check_asks" F_check_asks := fn_check_asks T (by decide)
    have f_marks_of : FnL ⟨P, w, gx K mg, base, 9⟩ "marks_of" F_marks_of := fn_marks_of T (by decide)
    simp only [ir_lent, needSs, needA, needB, needO, needX, needS, needT, needC, needD, nd_Xp_v, nd_Xo_v, nd_Xp_c, nd_Xp_g, nd_Xp_neg, nd_Xp_bin, nd_Xp_cmp, nd_Xt_cmp, nd_Xt_e, nd_Xt_not, nd_Xt_and, nd_Xt_or, nd_Xp_and, nd_Xp_or, nd_Xp_not, nd_Xp_ite, nd_Xp_chain, nd_Xt_chain, nd_Xp_ix, nd_Xp_sl, nd_Xp_tup, nd_Xp_fz, nd_Xp_hp, nd_Xn_lst, nd_Xp_call, nd_Xp_bi, nd_Xn_bi, nd_Xp_isi, nd_Ib_seq, nd_Ib_r1, nd_Ib_r2, nd_Xn_lc, nd_Sm_asg, nd_Sm_asgO, nd_Sm_asgLc, nd_Sm_asgOLc, nd_Sm_ex, nd_Sm_ret, nd_Sm_retN, nd_Sm_pass, nd_Sm_brk, nd_Sm_cont, nd_Sm_nev, nd_Sm_doc, nd_Sm_ife, nd_Sm_for_, nd_Sm_whl, nd_Sm_par, nd_Sm_app, nd_Xp_app, nd_Sm_setO, nd_Sm_setH, nd_Xp_at, nd_Xp_prop, nd_Xp_mc, nd_Sm_setA, nd_Xp_mkF, nd_Xp_mkH, nd_Xp_mul, nd_Xn_rep, nd_Xp_tupS, nd_Xn_lstS, nd_Ib_en, nd_Ib_zip2, nd_Ib_zip3, nd_Sm_tryN, nd_Xn_add, nd_Xp_lenO, nd_Xp_tzip, nd_Xn_sortK, nd_o, nd_al, nd_ar, nd_Xn_dnil, nd_Xn_dor, nd_Xp_dget, nd_Xt_din, nd_Xt_dnin, nd_Sm_dput, nd_Ib_items, nd_Xn_disp1, nd_Xn_dc, nd_Xn_sortD, nd_Sm_parC, nd_Xn_lrng, nd_Xn_sl, nd_Xp_bj, nd_Lst_ife, nd_Xn_lc2, nd_Xp_lenset, nd_Xn_srt, nd_Xp_mkF1, nd_Xp_mkF3, nd_Xn_rev, nd_Xn_disp, nd_Xp_gdef, nd_Xp_nget, nd_Xt_nin, nd_Xt_nnin, nd_Sm_nput, nd_Xn_nnil, nd_Xn_ndisp1, nd_Xp_callv, nd_Lst_ret, nd_Lst_defRet, nd_Lst_lamRet, nd_Ib_nkeys, nd_Xn_nlist, nd_Xn_nsort, nd_Sm_pop, nd_Sm_asgLc2, nd_Xp_ngetd, nd_Xn_sos, nd_Xn_sosL, nd_Xp_lensetI, biName, bnName, bjName, kdName, true_and, and_true]
    try exact trivial
    all_goals (repeat' (with_reducible apply And.intro))
    all_goals first | with_reducible assumption | exact trivial
  exact FnL.pure (gk_gx K mg) (DefAt.fnm (gk_gx K mg) (G := gx K mg) T.d_lent sc_lent ok_lent nd (fun _ _ _ _ _ _ us hl => match us, hl with | [_, _, _], _ => rfl) hj)
theorem fn_holders (T : Txt K mg C6) (hj : 12 ≤ j) : FnL ⟨P, w, gx K mg, base, j⟩ "holders" F_holders := by
  have nd : needSs ir_holders ⟨P, w, gx K mg, base, 9⟩ := by
    have b_bool : BtL ⟨P, w, gx K mg, base, 9⟩ "bool" := T.b_bool
    have b_enumerate : BtL ⟨P, w, gx K mg, base, 9⟩ "enumerate" := T.b_enumerate
    have b_int : BtL ⟨P, w, gx K mg, base, 9⟩ "int" := T.b_int
    have b_isinstance : BtL ⟨P, w, gx K mg, base, 9⟩ "isinstance" := T.b_isinstance
    have b_len : BtL ⟨P, w, gx K mg, base, 9⟩ "len" := T.b_len
    have b_max : BtL ⟨P, w, gx K mg, base, 9⟩ "max" := T.b_max
    have b_range : BtL ⟨P, w, gx K mg, base, 9⟩ "range" := T.b_range
    have b_set : BtL ⟨P, w, gx K mg, base, 9⟩ "set" := T.b_set
    have b_sorted : BtL ⟨P, w, gx K mg, base, 9⟩ "sorted" := T.b_sorted
    have b_tuple : BtL ⟨P, w, gx K mg, base, 9⟩ "tuple" := T.b_tuple
    have b_zip : BtL ⟨P, w, gx K mg, base, 9⟩ "zip" := T.b_zip
    have g_MAX_TIME : GvL ⟨P, w, gx K mg, base, 9⟩ "MAX_TIME" (.int 1000000000000000) := T.g_MAX_TIME
    have g_MAX_ASKER : GvL ⟨P, w, gx K mg, base, 9⟩ "MAX_ASKER" (.int 99) := T.g_MAX_ASKER
    have g_MAX_ASKS : GvL ⟨P, w, gx K mg, base, 9⟩ "MAX_ASKS" (.int 40) := T.g_MAX_ASKS
    have g_MAX_COUNT : GvL ⟨P, w, gx K mg, base, 9⟩ "MAX_COUNT" (.int 9) := T.g_MAX_COUNT
    have g_MAX_LENGTH : GvL ⟨P, w, gx K mg, base, 9⟩ "MAX_LENGTH" (.int 1000000000) := T.g_MAX_LENGTH
    have fl6_17 : FldL ⟨P, w, gx K mg, base, 9⟩ 6 17 := fld_pl (t := ⟨P, w, gx K mg, base, 9⟩) (by decide) T.mc6 rfl T.sc6 T.fl6_17
    have fl6_18 : FldL ⟨P, w, gx K mg, base, 9⟩ 6 18 := fld_pl (t := ⟨P, w, gx K mg, base, 9⟩) (by decide) T.mc6 rfl T.sc6 T.fl6_18
    have fl6_19 : FldL ⟨P, w, gx K mg, base, 9⟩ 6 19 := fld_pl (t := ⟨P, w, gx K mg, base, 9⟩) (by decide) T.mc6 rfl T.sc6 T.fl6_19
    have f_check_count : FnL ⟨P, w, gx K mg, base, 9⟩ "check_count" F_check_count := fn_check_count T (by decide)
    have f_check_asks : FnL ⟨P, w, gx K mg, base, 9⟩ "check_asks" F_check_asks := fn_check_asks T (by decide)
    have f_is_number : FnL ⟨P, w, gx K mg, base, 9⟩ "is_number" F_is_number := fn_is_number T (by decide)
    have f_marks_of : FnL ⟨P, w, gx K mg, base, 9⟩ "marks_of" F_marks_of := fn_marks_of T (by decide)
    simp only [ir_holders, needSs, needA, needB, needO, needX, needS, needT, needC, needD, nd_Xp_v, nd_Xo_v, nd_Xp_c, nd_Xp_g, nd_Xp_neg, nd_Xp_bin, nd_Xp_cmp, nd_Xt_cmp, nd_Xt_e, nd_Xt_not, nd_Xt_and, nd_Xt_or, nd_Xp_and, nd_Xp_or, nd_Xp_not, nd_Xp_ite, nd_Xp_chain, nd_Xt_chain, nd_Xp_ix, nd_Xp_sl, nd_Xp_tup, nd_Xp_fz, nd_Xp_hp, nd_Xn_lst, nd_Xp_call, nd_Xp_bi, nd_Xn_bi, nd_Xp_isi, nd_Ib_seq, nd_Ib_r1, nd_Ib_r2, nd_Xn_lc, nd_Sm_asg, nd_Sm_asgO, nd_Sm_asgLc, nd_Sm_asgOLc, nd_Sm_ex, nd_Sm_ret, nd_Sm_retN, nd_Sm_pass, nd_Sm_brk, nd_Sm_cont, nd_Sm_nev, nd_Sm_doc, nd_Sm_ife, nd_Sm_for_, nd_Sm_whl, nd_Sm_par, nd_Sm_app, nd_Xp_app, nd_Sm_setO, nd_Sm_setH, nd_Xp_at, nd_Xp_prop, nd_Xp_mc, nd_Sm_setA, nd_Xp_mkF, nd_Xp_mkH, nd_Xp_mul, nd_Xn_rep, nd_Xp_tupS, nd_Xn_lstS, nd_Ib_en, nd_Ib_zip2, nd_Ib_zip3, nd_Sm_tryN, nd_Xn_add, nd_Xp_lenO, nd_Xp_tzip, nd_Xn_sortK, nd_o, nd_al, nd_ar, nd_Xn_dnil, nd_Xn_dor, nd_Xp_dget, nd_Xt_din, nd_Xt_dnin, nd_Sm_dput, nd_Ib_items, nd_Xn_disp1, nd_Xn_dc, nd_Xn_sortD, nd_Sm_parC, nd_Xn_lrng, nd_Xn_sl, nd_Xp_bj, nd_Lst_ife, nd_Xn_lc2, nd_Xp_lenset, nd_Xn_srt, nd_Xp_mkF1, nd_Xp_mkF3, nd_Xn_rev, nd_Xn_disp, nd_Xp_gdef, nd_Xp_nget, nd_Xt_nin, nd_Xt_nnin, nd_Sm_nput, nd_Xn_nnil, nd_Xn_ndisp1, nd_Xp_callv, nd_Lst_ret, nd_Lst_defRet, nd_Lst_lamRet, nd_Ib_nkeys, nd_Xn_nlist, nd_Xn_nsort, nd_Sm_pop, nd_Sm_asgLc2, nd_Xp_ngetd, nd_Xn_sos, nd_Xn_sosL, nd_Xp_lensetI, biName, bnName, bjName, kdName, true_and, and_true]
    try exact trivial
    all_goals (repeat' (with_reducible apply And.intro))
    all_goals first | with_reducible assumption | exact trivial
  exact FnL.pure (gk_gx K mg) (DefAt.fnm (gk_gx K mg) (G := gx K mg) T.d_holders sc_holders ok_holders nd (fun _ _ _ _ _ _ us hl => match us, hl with | [_, _, _, _], _ => rfl) hj)
theorem fn_fewest_marks (T : Txt K mg C6) (hj : 12 ≤ j) : FnL ⟨P, w, gx K mg, base, j⟩ "fewest_marks" F_fewest_marks := by
  have nd : needSs ir_fewest_marks ⟨P, w, gx K mg, base, 9⟩ := by
    have b_bool : BtL ⟨P, w, gx K mg, base, 9⟩ "bool" := T.b_bool
    have b_enumerate : BtL ⟨P, w, gx K mg, base, 9⟩ "enumerate" := T.b_enumerate
    have b_int : BtL ⟨P, w, gx K mg, base, 9⟩ "int" := T.b_int
    have b_isinstance : BtL ⟨P, w, gx K mg, base, 9⟩ "isinstance" := T.b_isinstance
    have b_len : BtL ⟨P, w, gx K mg, base, 9⟩ "len" := T.b_len
    have b_max : BtL ⟨P, w, gx K mg, base, 9⟩ "max" := T.b_max
    have b_range : BtL ⟨P, w, gx K mg, base, 9⟩ "range" := T.b_range
    have b_set : BtL ⟨P, w, gx K mg, base, 9⟩ "set" := T.b_set
    have b_sorted : BtL ⟨P, w, gx K mg, base, 9⟩ "sorted" := T.b_sorted
    have b_tuple : BtL ⟨P, w, gx K mg, base, 9⟩ "tuple" := T.b_tuple
    have b_zip : BtL ⟨P, w, gx K mg, base, 9⟩ "zip" := T.b_zip
    have g_MAX_TIME : GvL ⟨P, w, gx K mg, base, 9⟩ "MAX_TIME" (.int 1000000000000000) := T.g_MAX_TIME
    have g_MAX_ASKER : GvL ⟨P, w, gx K mg, base, 9⟩ "MAX_ASKER" (.int 99) := T.g_MAX_ASKER
    have g_MAX_ASKS : GvL ⟨P, w, gx K mg, base, 9⟩ "MAX_ASKS" (.int 40) := T.g_MAX_ASKS
    have g_MAX_COUNT : GvL ⟨P, w, gx K mg, base, 9⟩ "MAX_COUNT" (.int 9) := T.g_MAX_COUNT
    have g_MAX_LENGTH : GvL ⟨P, w, gx K mg, base, 9⟩ "MAX_LENGTH" (.int 1000000000) := T.g_MAX_LENGTH
    have fl6_17 : FldL ⟨P, w, gx K mg, base, 9⟩ 6 17 := fld_pl (t := ⟨P, w, gx K mg, base, 9⟩) (by decide) T.mc6 rfl T.sc6 T.fl6_17
    have fl6_18 : FldL ⟨P, w, gx K mg, base, 9⟩ 6 18 := fld_pl (t := ⟨P, w, gx K mg, base, 9⟩) (by decide) T.mc6 rfl T.sc6 T.fl6_18
    have fl6_19 : FldL ⟨P, w, gx K mg, base, 9⟩ 6 19 := fld_pl (t := ⟨P, w, gx K mg, base, 9⟩) (by decide) T.mc6 rfl T.sc6 T.fl6_19
    have f_check_count : FnL ⟨P, w, gx K mg, base, 9⟩ "check_count" F_check_count := fn_check_count T (by decide)
    have f_check_asks : FnL ⟨P, w, gx K mg, base, 9⟩ "check_asks" F_check_asks := fn_check_asks T (by decide)
    have f_marks_of : FnL ⟨P, w, gx K mg, base, 9⟩ "marks_of" F_marks_of := fn_marks_of T (by decide)
    simp only [ir_fewest_marks, needSs, needA, needB, needO, needX, needS, needT, needC, needD, nd_Xp_v, nd_Xo_v, nd_Xp_c, nd_Xp_g, nd_Xp_neg, nd_Xp_bin, nd_Xp_cmp, nd_Xt_cmp, nd_Xt_e, nd_Xt_not, nd_Xt_and, nd_Xt_or, nd_Xp_and, nd_Xp_or, nd_Xp_not, nd_Xp_ite, nd_Xp_chain, nd_Xt_chain, nd_Xp_ix, nd_Xp_sl, nd_Xp_tup, nd_Xp_fz, nd_Xp_hp, nd_Xn_lst, nd_Xp_call, nd_Xp_bi, nd_Xn_bi, nd_Xp_isi, nd_Ib_seq, nd_Ib_r1, nd_Ib_r2, nd_Xn_lc, nd_Sm_asg, nd_Sm_asgO, nd_Sm_asgLc, nd_Sm_asgOLc, nd_Sm_ex, nd_Sm_ret, nd_Sm_retN, nd_Sm_pass, nd_Sm_brk, nd_Sm_cont, nd_Sm_nev, nd_Sm_doc, nd_Sm_ife, nd_Sm_for_, nd_Sm_whl, nd_Sm_par, nd_Sm_app, nd_Xp_app, nd_Sm_setO, nd_Sm_setH, nd_Xp_at, nd_Xp_prop, nd_Xp_mc, nd_Sm_setA, nd_Xp_mkF, nd_Xp_mkH, nd_Xp_mul, nd_Xn_rep, nd_Xp_tupS, nd_Xn_lstS, nd_Ib_en, nd_Ib_zip2, nd_Ib_zip3, nd_Sm_tryN, nd_Xn_add, nd_Xp_lenO, nd_Xp_tzip, nd_Xn_sortK, nd_o, nd_al, nd_ar, nd_Xn_dnil, nd_Xn_dor, nd_Xp_dget, nd_Xt_din, nd_Xt_dnin, nd_Sm_dput, nd_Ib_items, nd_Xn_disp1, nd_Xn_dc, nd_Xn_sortD, nd_Sm_parC, nd_Xn_lrng, nd_Xn_sl, nd_Xp_bj, nd_Lst_ife, nd_Xn_lc2, nd_Xp_lenset, nd_Xn_srt, nd_Xp_mkF1, nd_Xp_mkF3, nd_Xn_rev, nd_Xn_disp, nd_Xp_gdef, nd_Xp_nget, nd_Xt_nin, nd_Xt_nnin, nd_Sm_nput, nd_Xn_nnil, nd_Xn_ndisp1, nd_Xp_callv, nd_Lst_ret, nd_Lst_defRet, nd_Lst_lamRet, nd_Ib_nkeys, nd_Xn_nlist, nd_Xn_nsort, nd_Sm_pop, nd_Sm_asgLc2, nd_Xp_ngetd, nd_Xn_sos, nd_Xn_sosL, nd_Xp_lensetI, biName, bnName, bjName, kdName, true_and, and_true]
    try exact trivial
    all_goals (repeat' (with_reducible apply And.intro))
    all_goals first | with_reducible assumption | exact trivial
  exact FnL.pure (gk_gx K mg) (DefAt.fnm (gk_gx K mg) (G := gx K mg) T.d_fewest_marks sc_fewest_marks ok_fewest_marks nd (fun _ _ _ _ _ _ us hl => match us, hl with | [_, _], _ => rfl) hj)
theorem fn_is_short (T : Txt K mg C6) (hj : 9 ≤ j) : FnL ⟨P, w, gx K mg, base, j⟩ "is_short" F_is_short := by
  have nd : needSs ir_is_short ⟨P, w, gx K mg, base, 6⟩ := by
    have b_bool : BtL ⟨P, w, gx K mg, base, 6⟩ "bool" := T.b_bool
    have b_enumerate : BtL ⟨P, w, gx K mg, base, 6⟩ "enumerate" := T.b_enumerate
    have b_int : BtL ⟨P, w, gx K mg, base, 6⟩ "int" := T.b_int
    have b_isinstance : BtL ⟨P, w, gx K mg, base, 6⟩ "isinstance" := T.b_isinstance
    have b_len : BtL ⟨P, w, gx K mg, base, 6⟩ "len" := T.b_len
    have b_max : BtL ⟨P, w, gx K mg, base, 6⟩ "max" := T.b_max
    have b_range : BtL ⟨P, w, gx K mg, base, 6⟩ "range" := T.b_range
    have b_set : BtL ⟨P, w, gx K mg, base, 6⟩ "set" := T.b_set
    have b_sorted : BtL ⟨P, w, gx K mg, base, 6⟩ "sorted" := T.b_sorted
    have b_tuple : BtL ⟨P, w, gx K mg, base, 6⟩ "tuple" := T.b_tuple
    have b_zip : BtL ⟨P, w, gx K mg, base, 6⟩ "zip" := T.b_zip
    have g_MAX_TIME : GvL ⟨P, w, gx K mg, base, 6⟩ "MAX_TIME" (.int 1000000000000000) := T.g_MAX_TIME
    have g_MAX_ASKER : GvL ⟨P, w, gx K mg, base, 6⟩ "MAX_ASKER" (.int 99) := T.g_MAX_ASKER
    have g_MAX_ASKS : GvL ⟨P, w, gx K mg, base, 6⟩ "MAX_ASKS" (.int 40) := T.g_MAX_ASKS
    have g_MAX_COUNT : GvL ⟨P, w, gx K mg, base, 6⟩ "MAX_COUNT" (.int 9) := T.g_MAX_COUNT
    have g_MAX_LENGTH : GvL ⟨P, w, gx K mg, base, 6⟩ "MAX_LENGTH" (.int 1000000000) := T.g_MAX_LENGTH
    have fl6_17 : FldL ⟨P, w, gx K mg, base, 6⟩ 6 17 := fld_pl (t := ⟨P, w, gx K mg, base, 6⟩) (by decide) T.mc6 rfl T.sc6 T.fl6_17
    have fl6_18 : FldL ⟨P, w, gx K mg, base, 6⟩ 6 18 := fld_pl (t := ⟨P, w, gx K mg, base, 6⟩) (by decide) T.mc6 rfl T.sc6 T.fl6_18
    have fl6_19 : FldL ⟨P, w, gx K mg, base, 6⟩ 6 19 := fld_pl (t := ⟨P, w, gx K mg, base, 6⟩) (by decide) T.mc6 rfl T.sc6 T.fl6_19
    have f_marks_of : FnL ⟨P, w, gx K mg, base, 6⟩ "marks_of" F_marks_of := fn_marks_of T (by decide)
    simp only [ir_is_short, needSs, needA, needB, needO, needX, needS, needT, needC, needD, nd_Xp_v, nd_Xo_v, nd_Xp_c, nd_Xp_g, nd_Xp_neg, nd_Xp_bin, nd_Xp_cmp, nd_Xt_cmp, nd_Xt_e, nd_Xt_not, nd_Xt_and, nd_Xt_or, nd_Xp_and, nd_Xp_or, nd_Xp_not, nd_Xp_ite, nd_Xp_chain, nd_Xt_chain, nd_Xp_ix, nd_Xp_sl, nd_Xp_tup, nd_Xp_fz, nd_Xp_hp, nd_Xn_lst, nd_Xp_call, nd_Xp_bi, nd_Xn_bi, nd_Xp_isi, nd_Ib_seq, nd_Ib_r1, nd_Ib_r2, nd_Xn_lc, nd_Sm_asg, nd_Sm_asgO, nd_Sm_asgLc, nd_Sm_asgOLc, nd_Sm_ex, nd_Sm_ret, nd_Sm_retN, nd_Sm_pass, nd_Sm_brk, nd_Sm_cont, nd_Sm_nev, nd_Sm_doc, nd_Sm_ife, nd_Sm_for_, nd_Sm_whl, nd_Sm_par, nd_Sm_app, nd_Xp_app, nd_Sm_setO, nd_Sm_setH, nd_Xp_at, nd_Xp_prop, nd_Xp_mc, nd_Sm_setA, nd_Xp_mkF, nd_Xp_mkH, nd_Xp_mul, nd_Xn_rep, nd_Xp_tupS, nd_Xn_lstS, nd_Ib_en, nd_Ib_zip2, nd_Ib_zip3, nd_Sm_tryN, nd_Xn_add, nd_Xp_lenO, nd_Xp_tzip, nd_Xn_sortK, nd_o, nd_al, nd_ar, nd_Xn_dnil, nd_Xn_dor, nd_Xp_dget, nd_Xt_din, nd_Xt_dnin, nd_Sm_dput, nd_Ib_items, nd_Xn_disp1, nd_Xn_dc, nd_Xn_sortD, nd_Sm_parC, nd_Xn_lrng, nd_Xn_sl, nd_Xp_bj, nd_Lst_ife, nd_Xn_lc2, nd_Xp_lenset, nd_Xn_srt, nd_Xp_mkF1, nd_Xp_mkF3, nd_Xn_rev, nd_Xn_disp, nd_Xp_gdef, nd_Xp_nget, nd_Xt_nin, nd_Xt_nnin, nd_Sm_nput, nd_Xn_nnil, nd_Xn_ndisp1, nd_Xp_callv, nd_Lst_ret, nd_Lst_defRet, nd_Lst_lamRet, nd_Ib_nkeys, nd_Xn_nlist, nd_Xn_nsort, nd_Sm_pop, nd_Sm_asgLc2, nd_Xp_ngetd, nd_Xn_sos, nd_Xn_sosL, nd_Xp_lensetI, biName, bnName, bjName, kdName, true_and, and_true]
    try exact trivial
    all_goals (repeat' (with_reducible apply And.intro))
    all_goals first | with_reducible assumption | exact trivial
  exact FnL.pure (gk_gx K mg) (DefAt.fnm (gk_gx K mg) (G := gx K mg) T.d_is_short sc_is_short ok_is_short nd (fun _ _ _ _ _ _ us hl => match us, hl with | [_, _, _], _ => rfl) hj)
theorem fn_shortest_length (T : Txt K mg C6) (hj : 12 ≤ j) : FnL ⟨P, w, gx K mg, base, j⟩ "shortest_length" F_shortest_length := by
  have nd : needSs ir_shortest_length ⟨P, w, gx K mg, base, 9⟩ := by
    have b_bool : BtL ⟨P, w, gx K mg, base, 9⟩ "bool" := T.b_bool
    have b_enumerate : BtL ⟨P, w, gx K mg, base, 9⟩ "enumerate" := T.b_enumerate
    have b_int : BtL ⟨P, w, gx K mg, base, 9⟩ "int" := T.b_int
    have b_isinstance : BtL ⟨P, w, gx K mg, base, 9⟩ "isinstance" := T.b_isinstance
    have b_len : BtL ⟨P, w, gx K mg, base, 9⟩ "len" := T.b_len
    have b_max : BtL ⟨P, w, gx K mg, base, 9⟩ "max" := T.b_max
    have b_range : BtL ⟨P, w, gx K mg, base, 9⟩ "range" := T.b_range
    have b_set : BtL ⟨P, w, gx K mg, base, 9⟩ "set" := T.b_set
    have b_sorted : BtL ⟨P, w, gx K mg, base, 9⟩ "sorted" := T.b_sorted
    have b_tuple : BtL ⟨P, w, gx K mg, base, 9⟩ "tuple" := T.b_tuple
    have b_zip : BtL ⟨P, w, gx K mg, base, 9⟩ "zip" := T.b_zip
    have g_MAX_TIME : GvL ⟨P, w, gx K mg, base, 9⟩ "MAX_TIME" (.int 1000000000000000) := T.g_MAX_TIME
    have g_MAX_ASKER : GvL ⟨P, w, gx K mg, base, 9⟩ "MAX_ASKER" (.int 99) := T.g_MAX_ASKER
    have g_MAX_ASKS : GvL ⟨P, w, gx K mg, base, 9⟩ "MAX_ASKS" (.int 40) := T.g_MAX_ASKS
    have g_MAX_COUNT : GvL ⟨P, w, gx K mg, base, 9⟩ "MAX_COUNT" (.int 9) := T.g_MAX_COUNT
    have g_MAX_LENGTH : GvL ⟨P, w, gx K mg, base, 9⟩ "MAX_LENGTH" (.int 1000000000) := T.g_MAX_LENGTH
    have fl6_17 : FldL ⟨P, w, gx K mg, base, 9⟩ 6 17 := fld_pl (t := ⟨P, w, gx K mg, base, 9⟩) (by decide) T.mc6 rfl T.sc6 T.fl6_17
    have fl6_18 : FldL ⟨P, w, gx K mg, base, 9⟩ 6 18 := fld_pl (t := ⟨P, w, gx K mg, base, 9⟩) (by decide) T.mc6 rfl T.sc6 T.fl6_18
    have fl6_19 : FldL ⟨P, w, gx K mg, base, 9⟩ 6 19 := fld_pl (t := ⟨P, w, gx K mg, base, 9⟩) (by decide) T.mc6 rfl T.sc6 T.fl6_19
    have f_check_count : FnL ⟨P, w, gx K mg, base, 9⟩ "check_count" F_check_count := fn_check_count T (by decide)
    have f_check_asks : FnL ⟨P, w, gx K mg, base, 9⟩ "check_asks" F_check_asks := fn_check_asks T (by decide)
    have f_is_short : FnL ⟨P, w, gx K mg, base, 9⟩ "is_short" F_is_short := fn_is_short T (by decide)
    simp only [ir_shortest_length, needSs, needA, needB, needO, needX, needS, needT, needC, needD, nd_Xp_v, nd_Xo_v, nd_Xp_c, nd_Xp_g, nd_Xp_neg, nd_Xp_bin, nd_Xp_cmp, nd_Xt_cmp, nd_Xt_e, nd_Xt_not, nd_Xt_and, nd_Xt_or, nd_Xp_and, nd_Xp_or, nd_Xp_not, nd_Xp_ite, nd_Xp_chain, nd_Xt_chain, nd_Xp_ix, nd_Xp_sl, nd_Xp_tup, nd_Xp_fz, nd_Xp_hp, nd_Xn_lst, nd_Xp_call, nd_Xp_bi, nd_Xn_bi, nd_Xp_isi, nd_Ib_seq, nd_Ib_r1, nd_Ib_r2, nd_Xn_lc, nd_Sm_asg, nd_Sm_asgO, nd_Sm_asgLc, nd_Sm_asgOLc, nd_Sm_ex, nd_Sm_ret, nd_Sm_retN, nd_Sm_pass, nd_Sm_brk, nd_Sm_cont, nd_Sm_nev, nd_Sm_doc, nd_Sm_ife, nd_Sm_for_, nd_Sm_whl, nd_Sm_par, nd_Sm_app, nd_Xp_app, nd_Sm_setO, nd_Sm_setH, nd_Xp_at, nd_Xp_prop, nd_Xp_mc, nd_Sm_setA, nd_Xp_mkF, nd_Xp_mkH, nd_Xp_mul, nd_Xn_rep, nd_Xp_tupS, nd_Xn_lstS, nd_Ib_en, nd_Ib_zip2, nd_Ib_zip3, nd_Sm_tryN, nd_Xn_add, nd_Xp_lenO, nd_Xp_tzip, nd_Xn_sortK, nd_o, nd_al, nd_ar, nd_Xn_dnil, nd_Xn_dor, nd_Xp_dget, nd_Xt_din, nd_Xt_dnin, nd_Sm_dput, nd_Ib_items, nd_Xn_disp1, nd_Xn_dc, nd_Xn_sortD, nd_Sm_parC, nd_Xn_lrng, nd_Xn_sl, nd_Xp_bj, nd_Lst_ife, nd_Xn_lc2, nd_Xp_lenset, nd_Xn_srt, nd_Xp_mkF1, nd_Xp_mkF3, nd_Xn_rev, nd_Xn_disp, nd_Xp_gdef, nd_Xp_nget, nd_Xt_nin, nd_Xt_nnin, nd_Sm_nput, nd_Xn_nnil, nd_Xn_ndisp1, nd_Xp_callv, nd_Lst_ret, nd_Lst_defRet, nd_Lst_lamRet, nd_Ib_nkeys, nd_Xn_nlist, nd_Xn_nsort, nd_Sm_pop, nd_Sm_asgLc2, nd_Xp_ngetd, nd_Xn_sos, nd_Xn_sosL, nd_Xp_lensetI, biName, bnName, bjName, kdName, true_and, and_true]
    try exact trivial
    all_goals (repeat' (with_reducible apply And.intro))
    all_goals first | with_reducible assumption | exact trivial
  exact FnL.pure (gk_gx K mg) (DefAt.fnm (gk_gx K mg) (G := gx K mg) T.d_shortest_length sc_shortest_length ok_shortest_length nd (fun _ _ _ _ _ _ us hl => match us, hl with | [_, _], _ => rfl) hj)
theorem fn__law_taken (T : Txt K mg C6) (hj : 3 ≤ j) : FnL ⟨P, w, gx K mg, base, j⟩ "_law_taken" F__law_taken := by
  have nd : needSs ir__law_taken ⟨P, w, gx K mg, base, 0⟩ := by
    have b_bool : BtL ⟨P, w, gx K mg, base, 0⟩ "bool" := T.b_bool
    have b_enumerate : BtL ⟨P, w, gx K mg, base, 0⟩ "enumerate" := T.b_enumerate
    have b_int : BtL ⟨P, w, gx K mg, base, 0⟩ "int" := T.b_int
    have b_isinstance : BtL ⟨P, w, gx K mg, base, 0⟩ "isinstance" := T.b_isinstance
    have b_len : BtL ⟨P, w, gx K mg, base, 0⟩ "len" := T.b_len
    have b_max : BtL ⟨P, w, gx K mg, base, 0⟩ "max" := T.b_max
    have b_range : BtL ⟨P, w, gx K mg, base, 0⟩ "range" := T.b_range
    have b_set : BtL ⟨P, w, gx K mg, base, 0⟩ "set" := T.b_set
    have b_sorted : BtL ⟨P, w, gx K mg, base, 0⟩ "sorted" := T.b_sorted
    have b_tuple : BtL ⟨P, w, gx K mg, base, 0⟩ "tuple" := T.b_tuple
    have b_zip : BtL ⟨P, w, gx K mg, base, 0⟩ "zip" := T.b_zip
    have g_MAX_TIME : GvL ⟨P, w, gx K mg, base, 0⟩ "MAX_TIME" (.int 1000000000000000) := T.g_MAX_TIME
    have g_MAX_ASKER : GvL ⟨P, w, gx K mg, base, 0⟩ "MAX_ASKER" (.int 99) := T.g_MAX_ASKER
    have g_MAX_ASKS : GvL ⟨P, w, gx K mg, base, 0⟩ "MAX_ASKS" (.int 40) := T.g_MAX_ASKS
    have g_MAX_COUNT : GvL ⟨P, w, gx K mg, base, 0⟩ "MAX_COUNT" (.int 9) := T.g_MAX_COUNT
    have g_MAX_LENGTH : GvL ⟨P, w, gx K mg, base, 0⟩ "MAX_LENGTH" (.int 1000000000) := T.g_MAX_LENGTH
    have fl6_17 : FldL ⟨P, w, gx K mg, base, 0⟩ 6 17 := fld_pl (t := ⟨P, w, gx K mg, base, 0⟩) (by decide) T.mc6 rfl T.sc6 T.fl6_17
    have fl6_18 : FldL ⟨P, w, gx K mg, base, 0⟩ 6 18 := fld_pl (t := ⟨P, w, gx K mg, base, 0⟩) (by decide) T.mc6 rfl T.sc6 T.fl6_18
    have fl6_19 : FldL ⟨P, w, gx K mg, base, 0⟩ 6 19 := fld_pl (t := ⟨P, w, gx K mg, base, 0⟩) (by decide) T.mc6 rfl T.sc6 T.fl6_19
    simp only [ir__law_taken, needSs, needA, needB, needO, needX, needS, needT, needC, needD, nd_Xp_v, nd_Xo_v, nd_Xp_c, nd_Xp_g, nd_Xp_neg, nd_Xp_bin, nd_Xp_cmp, nd_Xt_cmp, nd_Xt_e, nd_Xt_not, nd_Xt_and, nd_Xt_or, nd_Xp_and, nd_Xp_or, nd_Xp_not, nd_Xp_ite, nd_Xp_chain, nd_Xt_chain, nd_Xp_ix, nd_Xp_sl, nd_Xp_tup, nd_Xp_fz, nd_Xp_hp, nd_Xn_lst, nd_Xp_call, nd_Xp_bi, nd_Xn_bi, nd_Xp_isi, nd_Ib_seq, nd_Ib_r1, nd_Ib_r2, nd_Xn_lc, nd_Sm_asg, nd_Sm_asgO, nd_Sm_asgLc, nd_Sm_asgOLc, nd_Sm_ex, nd_Sm_ret, nd_Sm_retN, nd_Sm_pass, nd_Sm_brk, nd_Sm_cont, nd_Sm_nev, nd_Sm_doc, nd_Sm_ife, nd_Sm_for_, nd_Sm_whl, nd_Sm_par, nd_Sm_app, nd_Xp_app, nd_Sm_setO, nd_Sm_setH, nd_Xp_at, nd_Xp_prop, nd_Xp_mc, nd_Sm_setA, nd_Xp_mkF, nd_Xp_mkH, nd_Xp_mul, nd_Xn_rep, nd_Xp_tupS, nd_Xn_lstS, nd_Ib_en, nd_Ib_zip2, nd_Ib_zip3, nd_Sm_tryN, nd_Xn_add, nd_Xp_lenO, nd_Xp_tzip, nd_Xn_sortK, nd_o, nd_al, nd_ar, nd_Xn_dnil, nd_Xn_dor, nd_Xp_dget, nd_Xt_din, nd_Xt_dnin, nd_Sm_dput, nd_Ib_items, nd_Xn_disp1, nd_Xn_dc, nd_Xn_sortD, nd_Sm_parC, nd_Xn_lrng, nd_Xn_sl, nd_Xp_bj, nd_Lst_ife, nd_Xn_lc2, nd_Xp_lenset, nd_Xn_srt, nd_Xp_mkF1, nd_Xp_mkF3, nd_Xn_rev, nd_Xn_disp, nd_Xp_gdef, nd_Xp_nget, nd_Xt_nin, nd_Xt_nnin, nd_Sm_nput, nd_Xn_nnil, nd_Xn_ndisp1, nd_Xp_callv, nd_Lst_ret, nd_Lst_defRet, nd_Lst_lamRet, nd_Ib_nkeys, nd_Xn_nlist, nd_Xn_nsort, nd_Sm_pop, nd_Sm_asgLc2, nd_Xp_ngetd, nd_Xn_sos, nd_Xn_sosL, nd_Xp_lensetI, biName, bnName, bjName, kdName, true_and, and_true]
    try exact trivial
    all_goals (repeat' (with_reducible apply And.intro))
    all_goals first | with_reducible assumption | exact trivial
  exact FnL.row (gk_gx K mg) (DefAt.fnm (gk_gx K mg) (G := gx K mg) T.d__law_taken sc__law_taken ok__law_taken nd (fun _ _ _ _ _ _ us hl => match us, hl with | [_, _], _ => rfl) hj)
theorem fn__law_asks (T : Txt K mg C6) (hj : 6 ≤ j) : FnL ⟨P, w, gx K mg, base, j⟩ "_law_asks" F__law_asks := by
  have nd : needSs ir__law_asks ⟨P, w, gx K mg, base, 3⟩ := by
    have b_bool : BtL ⟨P, w, gx K mg, base, 3⟩ "bool" := T.b_bool
    have b_enumerate : BtL ⟨P, w, gx K mg, base, 3⟩ "enumerate" := T.b_enumerate
    have b_int : BtL ⟨P, w, gx K mg, base, 3⟩ "int" := T.b_int
    have b_isinstance : BtL ⟨P, w, gx K mg, base, 3⟩ "isinstance" := T.b_isinstance
    have b_len : BtL ⟨P, w, gx K mg, base, 3⟩ "len" := T.b_len
    have b_max : BtL ⟨P, w, gx K mg, base, 3⟩ "max" := T.b_max
    have b_range : BtL ⟨P, w, gx K mg, base, 3⟩ "range" := T.b_range
    have b_set : BtL ⟨P, w, gx K mg, base, 3⟩ "set" := T.b_set
    have b_sorted : BtL ⟨P, w, gx K mg, base, 3⟩ "sorted" := T.b_sorted
    have b_tuple : BtL ⟨P, w, gx K mg, base, 3⟩ "tuple" := T.b_tuple
    have b_zip : BtL ⟨P, w, gx K mg, base, 3⟩ "zip" := T.b_zip
    have g_MAX_TIME : GvL ⟨P, w, gx K mg, base, 3⟩ "MAX_TIME" (.int 1000000000000000) := T.g_MAX_TIME
    have g_MAX_ASKER : GvL ⟨P, w, gx K mg, base, 3⟩ "MAX_ASKER" (.int 99) := T.g_MAX_ASKER
    have g_MAX_ASKS : GvL ⟨P, w, gx K mg, base, 3⟩ "MAX_ASKS" (.int 40) := T.g_MAX_ASKS
    have g_MAX_COUNT : GvL ⟨P, w, gx K mg, base, 3⟩ "MAX_COUNT" (.int 9) := T.g_MAX_COUNT
    have g_MAX_LENGTH : GvL ⟨P, w, gx K mg, base, 3⟩ "MAX_LENGTH" (.int 1000000000) := T.g_MAX_LENGTH
    have fl6_17 : FldL ⟨P, w, gx K mg, base, 3⟩ 6 17 := fld_pl (t := ⟨P, w, gx K mg, base, 3⟩) (by decide) T.mc6 rfl T.sc6 T.fl6_17
    have fl6_18 : FldL ⟨P, w, gx K mg, base, 3⟩ 6 18 := fld_pl (t := ⟨P, w, gx K mg, base, 3⟩) (by decide) T.mc6 rfl T.sc6 T.fl6_18
    have fl6_19 : FldL ⟨P, w, gx K mg, base, 3⟩ 6 19 := fld_pl (t := ⟨P, w, gx K mg, base, 3⟩) (by decide) T.mc6 rfl T.sc6 T.fl6_19
    have f__law_taken : FnL ⟨P, w, gx K mg, base, 3⟩ "_law_taken" F__law_taken := fn__law_taken T (by decide)
    simp only [ir__law_asks, needSs, needA, needB, needO, needX, needS, needT, needC, needD, nd_Xp_v, nd_Xo_v, nd_Xp_c, nd_Xp_g, nd_Xp_neg, nd_Xp_bin, nd_Xp_cmp, nd_Xt_cmp, nd_Xt_e, nd_Xt_not, nd_Xt_and, nd_Xt_or, nd_Xp_and, nd_Xp_or, nd_Xp_not, nd_Xp_ite, nd_Xp_chain, nd_Xt_chain, nd_Xp_ix, nd_Xp_sl, nd_Xp_tup, nd_Xp_fz, nd_Xp_hp, nd_Xn_lst, nd_Xp_call, nd_Xp_bi, nd_Xn_bi, nd_Xp_isi, nd_Ib_seq, nd_Ib_r1, nd_Ib_r2, nd_Xn_lc, nd_Sm_asg, nd_Sm_asgO, nd_Sm_asgLc, nd_Sm_asgOLc, nd_Sm_ex, nd_Sm_ret, nd_Sm_retN, nd_Sm_pass, nd_Sm_brk, nd_Sm_cont, nd_Sm_nev, nd_Sm_doc, nd_Sm_ife, nd_Sm_for_, nd_Sm_whl, nd_Sm_par, nd_Sm_app, nd_Xp_app, nd_Sm_setO, nd_Sm_setH, nd_Xp_at, nd_Xp_prop, nd_Xp_mc, nd_Sm_setA, nd_Xp_mkF, nd_Xp_mkH, nd_Xp_mul, nd_Xn_rep, nd_Xp_tupS, nd_Xn_lstS, nd_Ib_en, nd_Ib_zip2, nd_Ib_zip3, nd_Sm_tryN, nd_Xn_add, nd_Xp_lenO, nd_Xp_tzip, nd_Xn_sortK, nd_o, nd_al, nd_ar, nd_Xn_dnil, nd_Xn_dor, nd_Xp_dget, nd_Xt_din, nd_Xt_dnin, nd_Sm_dput, nd_Ib_items, nd_Xn_disp1, nd_Xn_dc, nd_Xn_sortD, nd_Sm_parC, nd_Xn_lrng, nd_Xn_sl, nd_Xp_bj, nd_Lst_ife, nd_Xn_lc2, nd_Xp_lenset, nd_Xn_srt, nd_Xp_mkF1, nd_Xp_mkF3, nd_Xn_rev, nd_Xn_disp, nd_Xp_gdef, nd_Xp_nget, nd_Xt_nin, nd_Xt_nnin, nd_Sm_nput, nd_Xn_nnil, nd_Xn_ndisp1, nd_Xp_callv, nd_Lst_ret, nd_Lst_defRet, nd_Lst_lamRet, nd_Ib_nkeys, nd_Xn_nlist, nd_Xn_nsort, nd_Sm_pop, nd_Sm_asgLc2, nd_Xp_ngetd, nd_Xn_sos, nd_Xn_sosL, nd_Xp_lensetI, biName, bnName, bjName, kdName, true_and, and_true]
    try exact trivial
    all_goals (repeat' (with_reducible apply And.intro))
    all_goals first | with_reducible assumption | exact trivial
  exact FnL.row (gk_gx K mg) (DefAt.fnm (gk_gx K mg) (G := gx K mg) T.d__law_asks sc__law_asks ok__law_asks nd (fun _ _ _ _ _ _ us hl => match us, hl with | [_, _, _], _ => rfl) hj)
theorem fn__law_are_late (T : Txt K mg C6) (hj : 15 ≤ j) : FnL ⟨P, w, gx K mg, base, j⟩ "_law_are_late" F__law_are_late := by
  have nd : needSs ir__law_are_late ⟨P, w, gx K mg, base, 12⟩ := by
    have b_bool : BtL ⟨P, w, gx K mg, base, 12⟩ "bool" := T.b_bool
    have b_enumerate : BtL ⟨P, w, gx K mg, base, 12⟩ "enumerate" := T.b_enumerate
    have b_int : BtL ⟨P, w, gx K mg, base, 12⟩ "int" := T.b_int
    have b_isinstance : BtL ⟨P, w, gx K mg, base, 12⟩ "isinstance" := T.b_isinstance
    have b_len : BtL ⟨P, w, gx K mg, base, 12⟩ "len" := T.b_len
    have b_max : BtL ⟨P, w, gx K mg, base, 12⟩ "max" := T.b_max
    have b_range : BtL ⟨P, w, gx K mg, base, 12⟩ "range" := T.b_range
    have b_set : BtL ⟨P, w, gx K mg, base, 12⟩ "set" := T.b_set
    have b_sorted : BtL ⟨P, w, gx K mg, base, 12⟩ "sorted" := T.b_sorted
    have b_tuple : BtL ⟨P, w, gx K mg, base, 12⟩ "tuple" := T.b_tuple
    have b_zip : BtL ⟨P, w, gx K mg, base, 12⟩ "zip" := T.b_zip
    have g_MAX_TIME : GvL ⟨P, w, gx K mg, base, 12⟩ "MAX_TIME" (.int 1000000000000000) := T.g_MAX_TIME
    have g_MAX_ASKER : GvL ⟨P, w, gx K mg, base, 12⟩ "MAX_ASKER" (.int 99) := T.g_MAX_ASKER
    have g_MAX_ASKS : GvL ⟨P, w, gx K mg, base, 12⟩ "MAX_ASKS" (.int 40) := T.g_MAX_ASKS
    have g_MAX_COUNT : GvL ⟨P, w, gx K mg, base, 12⟩ "MAX_COUNT" (.int 9) := T.g_MAX_COUNT
    have g_MAX_LENGTH : GvL ⟨P, w, gx K mg, base, 12⟩ "MAX_LENGTH" (.int 1000000000) := T.g_MAX_LENGTH
    have fl6_17 : FldL ⟨P, w, gx K mg, base, 12⟩ 6 17 := fld_pl (t := ⟨P, w, gx K mg, base, 12⟩) (by decide) T.mc6 rfl T.sc6 T.fl6_17
    have fl6_18 : FldL ⟨P, w, gx K mg, base, 12⟩ 6 18 := fld_pl (t := ⟨P, w, gx K mg, base, 12⟩) (by decide) T.mc6 rfl T.sc6 T.fl6_18
    have fl6_19 : FldL ⟨P, w, gx K mg, base, 12⟩ 6 19 := fld_pl (t := ⟨P, w, gx K mg, base, 12⟩) (by decide) T.mc6 rfl T.sc6 T.fl6_19
    have f_lent : FnL ⟨P, w, gx K mg, base, 12⟩ "lent" F_lent := fn_lent T (by decide)
    have f_fewest_marks : FnL ⟨P, w, gx K mg, base, 12⟩ "fewest_marks" F_fewest_marks := fn_fewest_marks T (by decide)
    have f__law_taken : FnL ⟨P, w, gx K mg, base, 12⟩ "_law_taken" F__law_taken := fn__law_taken T (by decide)
    have f_shortest_length : FnL ⟨P, w, gx K mg, base, 12⟩ "shortest_length" F_shortest_length := fn_shortest_length T (by decide)
    simp only [ir__law_are_late, needSs, needA, needB, needO, needX, needS, needT, needC, needD, nd_Xp_v, nd_Xo_v, nd_Xp_c, nd_Xp_g, nd_Xp_neg, nd_Xp_bin, nd_Xp_cmp, nd_Xt_cmp, nd_Xt_e, nd_Xt_not, nd_Xt_and, nd_Xt_or, nd_Xp_and, nd_Xp_or, nd_Xp_not, nd_Xp_ite, nd_Xp_chain, nd_Xt_chain, nd_Xp_ix, nd_Xp_sl, nd_Xp_tup, nd_Xp_fz, nd_Xp_hp, nd_Xn_lst, nd_Xp_call, nd_Xp_bi, nd_Xn_bi, nd_Xp_isi, nd_Ib_seq, nd_Ib_r1, nd_Ib_r2, nd_Xn_lc, nd_Sm_asg, nd_Sm_asgO, nd_Sm_asgLc, nd_Sm_asgOLc, nd_Sm_ex, nd_Sm_ret, nd_Sm_retN, nd_Sm_pass, nd_Sm_brk, nd_Sm_cont, nd_Sm_nev, nd_Sm_doc, nd_Sm_ife, nd_Sm_for_, nd_Sm_whl, nd_Sm_par, nd_Sm_app, nd_Xp_app, nd_Sm_setO, nd_Sm_setH, nd_Xp_at, nd_Xp_prop, nd_Xp_mc, nd_Sm_setA, nd_Xp_mkF, nd_Xp_mkH, nd_Xp_mul, nd_Xn_rep, nd_Xp_tupS, nd_Xn_lstS, nd_Ib_en, nd_Ib_zip2, nd_Ib_zip3, nd_Sm_tryN, nd_Xn_add, nd_Xp_lenO, nd_Xp_tzip, nd_Xn_sortK, nd_o, nd_al, nd_ar, nd_Xn_dnil, nd_Xn_dor, nd_Xp_dget, nd_Xt_din, nd_Xt_dnin, nd_Sm_dput, nd_Ib_items, nd_Xn_disp1, nd_Xn_dc, nd_Xn_sortD, nd_Sm_parC, nd_Xn_lrng, nd_Xn_sl, nd_Xp_bj, nd_Lst_ife, nd_Xn_lc2, nd_Xp_lenset, nd_Xn_srt, nd_Xp_mkF1, nd_Xp_mkF3, nd_Xn_rev, nd_Xn_disp, nd_Xp_gdef, nd_Xp_nget, nd_Xt_nin, nd_Xt_nnin, nd_Sm_nput, nd_Xn_nnil, nd_Xn_ndisp1, nd_Xp_callv, nd_Lst_ret, nd_Lst_defRet, nd_Lst_lamRet, nd_Ib_nkeys, nd_Xn_nlist, nd_Xn_nsort, nd_Sm_pop, nd_Sm_asgLc2, nd_Xp_ngetd, nd_Xn_sos, nd_Xn_sosL, nd_Xp_lensetI, biName, bnName, bjName, kdName, true_and, and_true]
    try exact trivial
    all_goals (repeat' (with_reducible apply And.intro))
    all_goals first | with_reducible assumption | exact trivial
  exact FnL.row (gk_gx K mg) (DefAt.fnm (gk_gx K mg) (G := gx K mg) T.d__law_are_late sc__law_are_late ok__law_are_late nd (fun _ _ _ _ _ _ us hl => match us, hl with | [_, _, _, _], _ => rfl) hj)
theorem ok_law_fn (T : Txt K mg C6) {a : Addr} {fd : FuncData} (F : Fun K "law" "law" st_law a fd) : FnOk P w K mg base (L2.CX P w) 18 a fd P_law (lift (gx K mg) F_law) := by
  have nd : needSs ir_law ⟨P, w, gx K mg, base, 15⟩ := by
    have b_bool : BtL ⟨P, w, gx K mg, base, 15⟩ "bool" := T.b_bool
    have b_enumerate : BtL ⟨P, w, gx K mg, base, 15⟩ "enumerate" := T.b_enumerate
    have b_int : BtL ⟨P, w, gx K mg, base, 15⟩ "int" := T.b_int
    have b_isinstance : BtL ⟨P, w, gx K mg, base, 15⟩ "isinstance" := T.b_isinstance
    have b_len : BtL ⟨P, w, gx K mg, base, 15⟩ "len" := T.b_len
    have b_max : BtL ⟨P, w, gx K mg, base, 15⟩ "max" := T.b_max
    have b_range : BtL ⟨P, w, gx K mg, base, 15⟩ "range" := T.b_range
    have b_set : BtL ⟨P, w, gx K mg, base, 15⟩ "set" := T.b_set
    have b_sorted : BtL ⟨P, w, gx K mg, base, 15⟩ "sorted" := T.b_sorted
    have b_tuple : BtL ⟨P, w, gx K mg, base, 15⟩ "tuple" := T.b_tuple
    have b_zip : BtL ⟨P, w, gx K mg, base, 15⟩ "zip" := T.b_zip
    have g_MAX_TIME : GvL ⟨P, w, gx K mg, base, 15⟩ "MAX_TIME" (.int 1000000000000000) := T.g_MAX_TIME
    have g_MAX_ASKER : GvL ⟨P, w, gx K mg, base, 15⟩ "MAX_ASKER" (.int 99) := T.g_MAX_ASKER
    have g_MAX_ASKS : GvL ⟨P, w, gx K mg, base, 15⟩ "MAX_ASKS" (.int 40) := T.g_MAX_ASKS
    have g_MAX_COUNT : GvL ⟨P, w, gx K mg, base, 15⟩ "MAX_COUNT" (.int 9) := T.g_MAX_COUNT
    have g_MAX_LENGTH : GvL ⟨P, w, gx K mg, base, 15⟩ "MAX_LENGTH" (.int 1000000000) := T.g_MAX_LENGTH
    have fl6_17 : FldL ⟨P, w, gx K mg, base, 15⟩ 6 17 := fld_pl (t := ⟨P, w, gx K mg, base, 15⟩) (by decide) T.mc6 rfl T.sc6 T.fl6_17
    have fl6_18 : FldL ⟨P, w, gx K mg, base, 15⟩ 6 18 := fld_pl (t := ⟨P, w, gx K mg, base, 15⟩) (by decide) T.mc6 rfl T.sc6 T.fl6_18
    have fl6_19 : FldL ⟨P, w, gx K mg, base, 15⟩ 6 19 := fld_pl (t := ⟨P, w, gx K mg, base, 15⟩) (by decide) T.mc6 rfl T.sc6 T.fl6_19
    have f__law_asks : FnL ⟨P, w, gx K mg, base, 15⟩ "_law_asks" F__law_asks := fn__law_asks T (by decide)
    have f__law_taken : FnL ⟨P, w, gx K mg, base, 15⟩ "_law_taken" F__law_taken := fn__law_taken T (by decide)
    have f_lent : FnL ⟨P, w, gx K mg, base, 15⟩ "lent" F_lent := fn_lent T (by decide)
    have f_fewest_marks : FnL ⟨P, w, gx K mg, base, 15⟩ "fewest_marks" F_fewest_marks := fn_fewest_marks T (by decide)
    have f_holders : FnL ⟨P, w, gx K mg, base, 15⟩ "holders" F_holders := fn_holders T (by decide)
    have f__law_are_late : FnL ⟨P, w, gx K mg, base, 15⟩ "_law_are_late" F__law_are_late := fn__law_are_late T (by decide)
    simp only [ir_law, needSs, needA, needB, needO, needX, needS, needT, needC, needD, nd_Xp_v, nd_Xo_v, nd_Xp_c, nd_Xp_g, nd_Xp_neg, nd_Xp_bin, nd_Xp_cmp, nd_Xt_cmp, nd_Xt_e, nd_Xt_not, nd_Xt_and, nd_Xt_or, nd_Xp_and, nd_Xp_or, nd_Xp_not, nd_Xp_ite, nd_Xp_chain, nd_Xt_chain, nd_Xp_ix, nd_Xp_sl, nd_Xp_tup, nd_Xp_fz, nd_Xp_hp, nd_Xn_lst, nd_Xp_call, nd_Xp_bi, nd_Xn_bi, nd_Xp_isi, nd_Ib_seq, nd_Ib_r1, nd_Ib_r2, nd_Xn_lc, nd_Sm_asg, nd_Sm_asgO, nd_Sm_asgLc, nd_Sm_asgOLc, nd_Sm_ex, nd_Sm_ret, nd_Sm_retN, nd_Sm_pass, nd_Sm_brk, nd_Sm_cont, nd_Sm_nev, nd_Sm_doc, nd_Sm_ife, nd_Sm_for_, nd_Sm_whl, nd_Sm_par, nd_Sm_app, nd_Xp_app, nd_Sm_setO, nd_Sm_setH, nd_Xp_at, nd_Xp_prop, nd_Xp_mc, nd_Sm_setA, nd_Xp_mkF, nd_Xp_mkH, nd_Xp_mul, nd_Xn_rep, nd_Xp_tupS, nd_Xn_lstS, nd_Ib_en, nd_Ib_zip2, nd_Ib_zip3, nd_Sm_tryN, nd_Xn_add, nd_Xp_lenO, nd_Xp_tzip, nd_Xn_sortK, nd_o, nd_al, nd_ar, nd_Xn_dnil, nd_Xn_dor, nd_Xp_dget, nd_Xt_din, nd_Xt_dnin, nd_Sm_dput, nd_Ib_items, nd_Xn_disp1, nd_Xn_dc, nd_Xn_sortD, nd_Sm_parC, nd_Xn_lrng, nd_Xn_sl, nd_Xp_bj, nd_Lst_ife, nd_Xn_lc2, nd_Xp_lenset, nd_Xn_srt, nd_Xp_mkF1, nd_Xp_mkF3, nd_Xn_rev, nd_Xn_disp, nd_Xp_gdef, nd_Xp_nget, nd_Xt_nin, nd_Xt_nnin, nd_Sm_nput, nd_Xn_nnil, nd_Xn_ndisp1, nd_Xp_callv, nd_Lst_ret, nd_Lst_defRet, nd_Lst_lamRet, nd_Ib_nkeys, nd_Xn_nlist, nd_Xn_nsort, nd_Sm_pop, nd_Sm_asgLc2, nd_Xp_ngetd, nd_Xn_sos, nd_Xn_sosL, nd_Xp_lensetI, biName, bnName, bjName, kdName, true_and, and_true]
    try exact trivial
    all_goals (repeat' (with_reducible apply And.intro))
    all_goals first | with_reducible assumption | exact trivial
  exact (fnok_L (gk_gx K mg) (G := gx K mg) F sc_law ok_law nd).imp fun vs H Q E x => lift_pure (gk_gx K mg) x
end
theorem all_mk {l : PySem.W.OpenLaw} {w : World} {K : PySem.W.Frag} {h : Heap} {mg : Str → Option Value} {fa C6 f0 f1 f2 f3 f4 f5 f6 f7 f8 f9 f10 f11 f12 f13 f14 f15 : Addr} {od0 an0 od1 an1 od2 an2 od3 an3 od4 an4 od5 an5 od6 an6 od7 an7 od8 an8 od9 an9 od10 an10 od11 an11 od12 an12 od13 an13 od14 an14 od15 an15 : Option Addr} {sl0 sl1 sl2 sl3 sl4 sl5 sl6 sl7 sl8 sl9 sl10 sl11 sl12 sl13 sl14 sl15 : Array (Option Value)} {oc0 kV0 dc0 pm0 cd0 ct0 oc1 kV1 dc1 pm1 cd1 ct1 oc2 kV2 dc2 pm2 cd2 ct2 oc3 kV3 dc3 pm3 cd3 ct3 oc4 kV4 dc4 pm4 cd4 ct4 oc5 kV5 dc5 pm5 cd5 ct5 oc6 kV6 dc6 pm6 cd6 ct6 oc7 kV7 dc7 pm7 cd7 ct7 oc8 kV8 dc8 pm8 cd8 ct8 oc9 kV9 dc9 pm9 cd9 ct9 oc10 kV10 dc10 pm10 cd10 ct10 oc11 kV11 dc11 pm11 cd11 ct11 oc12 kV12 dc12 pm12 cd12 ct12 oc13 kV13 dc13 pm13 cd13 ct13 oc14 kV14 dc14 pm14 cd14 ct14 oc15 kV15 dc15 pm15 cd15 ct15 : Value} {t_MAX_TIME t_MAX_ASKER t_MAX_ASKS t_MAX_COUNT t_MAX_LENGTH : Tok}   (X : K.In h) (G : h.Ns mainGlobals mg) (hfa : mg "law" = some (.ref fa))
    (zc6 : PySem.W.nsIn K mainGlobals "Desk" = some (some (.ref C6)))
    (zp6 : PySem.W.plainGet K C6 Str.empty = true)
    (zi6 : PySem.W.hasDictIn K C6 = true)
    (zo6 : PySem.W.plainOver K C6 = true)
    (zs6 : PySem.W.findIn K (.ref C6) "__setattr__" = some (some (.builtin "object.__setattr__")))
    (zm6 : PySem.W.makesIn K C6 = true)
    (zk6 : PySem.W.keepIn K (.ref C6) = true)
    (ya6_17 : PySem.W.findIn K (.ref C6) "size" = some none)
    (ya6_18 : PySem.W.findIn K (.ref C6) "span" = some none)
    (ya6_19 : PySem.W.findIn K (.ref C6) "rows" = some none)
    (a0 : PySem.W.nsIn K mainGlobals "is_number" = some (some (.ref f0)))
    (l0 : K.lookup f0 = some ⟨oc0, od0, .func (PySem.W.fnOf "is_number" "is_number" (defArgs st_is_number) (defBody st_is_number) (defScope st_is_number) .none kV0 dc0 pm0 an0 cd0 ct0), sl0⟩)
    (c0 : PySem.W.codeIn K cd0 "is_number" = true)
    (k0 : PySem.W.keepIn K (.ref f0) = true)
    (a1 : PySem.W.nsIn K mainGlobals "check_count" = some (some (.ref f1)))
    (l1 : K.lookup f1 = some ⟨oc1, od1, .func (PySem.W.fnOf "check_count" "check_count" (defArgs st_check_count) (defBody st_check_count) (defScope st_check_count) .none kV1 dc1 pm1 an1 cd1 ct1), sl1⟩)
    (c1 : PySem.W.codeIn K cd1 "check_count" = true)
    (k1 : PySem.W.keepIn K (.ref f1) = true)
    (a2 : PySem.W.nsIn K mainGlobals "is_ask" = some (some (.ref f2)))
    (l2 : K.lookup f2 = some ⟨oc2, od2, .func (PySem.W.fnOf "is_ask" "is_ask" (defArgs st_is_ask) (defBody st_is_ask) (defScope st_is_ask) .none kV2 dc2 pm2 an2 cd2 ct2), sl2⟩)
    (c2 : PySem.W.codeIn K cd2 "is_ask" = true)
    (k2 : PySem.W.keepIn K (.ref f2) = true)
    (a3 : PySem.W.nsIn K mainGlobals "check_asks" = some (some (.ref f3)))
    (l3 : K.lookup f3 = some ⟨oc3, od3, .func (PySem.W.fnOf "check_asks" "check_asks" (defArgs st_check_asks) (defBody st_check_asks) (defScope st_check_asks) .none kV3 dc3 pm3 an3 cd3 ct3), sl3⟩)
    (c3 : PySem.W.codeIn K cd3 "check_asks" = true)
    (k3 : PySem.W.keepIn K (.ref f3) = true)
    (a4 : PySem.W.findIn K (.ref C6) "__init__" = some (some (.ref f4)))
    (i4 : PySem.W.isFn K (.ref f4) = true)
    (l4 : K.lookup f4 = some ⟨oc4, od4, .func (PySem.W.fnOf "__init__" "Desk.__init__" (defArgs st_Desk___init__) (defBody st_Desk___init__) (defScope st_Desk___init__) .none kV4 dc4 pm4 an4 cd4 ct4), sl4⟩)
    (c4 : PySem.W.codeIn K cd4 "Desk.__init__" = true)
    (k4 : PySem.W.keepIn K (.ref f4) = true)
    (a5 : PySem.W.findIn K (.ref C6) "ask" = some (some (.ref f5)))
    (i5 : PySem.W.isFn K (.ref f5) = true)
    (l5 : K.lookup f5 = some ⟨oc5, od5, .func (PySem.W.fnOf "ask" "Desk.ask" (defArgs st_Desk_ask) (defBody st_Desk_ask) (defScope st_Desk_ask) .none kV5 dc5 pm5 an5 cd5 ct5), sl5⟩)
    (c5 : PySem.W.codeIn K cd5 "Desk.ask" = true)
    (k5 : PySem.W.keepIn K (.ref f5) = true)
    (a6 : PySem.W.nsIn K mainGlobals "marks_of" = some (some (.ref f6)))
    (l6 : K.lookup f6 = some ⟨oc6, od6, .func (PySem.W.fnOf "marks_of" "marks_of" (defArgs st_marks_of) (defBody st_marks_of) (defScope st_marks_of) .none kV6 dc6 pm6 an6 cd6 ct6), sl6⟩)
    (c6 : PySem.W.codeIn K cd6 "marks_of" = true)
    (k6 : PySem.W.keepIn K (.ref f6) = true)
    (a7 : PySem.W.nsIn K mainGlobals "lent" = some (some (.ref f7)))
    (l7 : K.lookup f7 = some ⟨oc7, od7, .func (PySem.W.fnOf "lent" "lent" (defArgs st_lent) (defBody st_lent) (defScope st_lent) .none kV7 dc7 pm7 an7 cd7 ct7), sl7⟩)
    (c7 : PySem.W.codeIn K cd7 "lent" = true)
    (k7 : PySem.W.keepIn K (.ref f7) = true)
    (a8 : PySem.W.nsIn K mainGlobals "holders" = some (some (.ref f8)))
    (l8 : K.lookup f8 = some ⟨oc8, od8, .func (PySem.W.fnOf "holders" "holders" (defArgs st_holders) (defBody st_holders) (defScope st_holders) .none kV8 dc8 pm8 an8 cd8 ct8), sl8⟩)
    (c8 : PySem.W.codeIn K cd8 "holders" = true)
    (k8 : PySem.W.keepIn K (.ref f8) = true)
    (a9 : PySem.W.nsIn K mainGlobals "fewest_marks" = some (some (.ref f9)))
    (l9 : K.lookup f9 = some ⟨oc9, od9, .func (PySem.W.fnOf "fewest_marks" "fewest_marks" (defArgs st_fewest_marks) (defBody st_fewest_marks) (defScope st_fewest_marks) .none kV9 dc9 pm9 an9 cd9 ct9), sl9⟩)
    (c9 : PySem.W.codeIn K cd9 "fewest_marks" = true)
    (k9 : PySem.W.keepIn K (.ref f9) = true)
    (a10 : PySem.W.nsIn K mainGlobals "is_short" = some (some (.ref f10)))
    (l10 : K.lookup f10 = some ⟨oc10, od10, .func (PySem.W.fnOf "is_short" "is_short" (defArgs st_is_short) (defBody st_is_short) (defScope st_is_short) .none kV10 dc10 pm10 an10 cd10 ct10), sl10⟩)
    (c10 : PySem.W.codeIn K cd10 "is_short" = true)
    (k10 : PySem.W.keepIn K (.ref f10) = true)
    (a11 : PySem.W.nsIn K mainGlobals "shortest_length" = some (some (.ref f11)))
    (l11 : K.lookup f11 = some ⟨oc11, od11, .func (PySem.W.fnOf "shortest_length" "shortest_length" (defArgs st_shortest_length) (defBody st_shortest_length) (defScope st_shortest_length) .none kV11 dc11 pm11 an11 cd11 ct11), sl11⟩)
    (c11 : PySem.W.codeIn K cd11 "shortest_length" = true)
    (k11 : PySem.W.keepIn K (.ref f11) = true)
    (a12 : PySem.W.nsIn K mainGlobals "_law_taken" = some (some (.ref f12)))
    (l12 : K.lookup f12 = some ⟨oc12, od12, .func (PySem.W.fnOf "_law_taken" "_law_taken" (defArgs st__law_taken) (defBody st__law_taken) (defScope st__law_taken) .none kV12 dc12 pm12 an12 cd12 ct12), sl12⟩)
    (c12 : PySem.W.codeIn K cd12 "_law_taken" = true)
    (k12 : PySem.W.keepIn K (.ref f12) = true)
    (a13 : PySem.W.nsIn K mainGlobals "_law_asks" = some (some (.ref f13)))
    (l13 : K.lookup f13 = some ⟨oc13, od13, .func (PySem.W.fnOf "_law_asks" "_law_asks" (defArgs st__law_asks) (defBody st__law_asks) (defScope st__law_asks) .none kV13 dc13 pm13 an13 cd13 ct13), sl13⟩)
    (c13 : PySem.W.codeIn K cd13 "_law_asks" = true)
    (k13 : PySem.W.keepIn K (.ref f13) = true)
    (a14 : PySem.W.nsIn K mainGlobals "_law_are_late" = some (some (.ref f14)))
    (l14 : K.lookup f14 = some ⟨oc14, od14, .func (PySem.W.fnOf "_law_are_late" "_law_are_late" (defArgs st__law_are_late) (defBody st__law_are_late) (defScope st__law_are_late) .none kV14 dc14 pm14 an14 cd14 ct14), sl14⟩)
    (c14 : PySem.W.codeIn K cd14 "_law_are_late" = true)
    (k14 : PySem.W.keepIn K (.ref f14) = true)
    (a15 : PySem.W.nsIn K mainGlobals "law" = some (some (.ref f15)))
    (l15 : K.lookup f15 = some ⟨oc15, od15, .func (PySem.W.fnOf "law" "law" (defArgs st_law) (defBody st_law) (defScope st_law) .none kV15 dc15 pm15 an15 cd15 ct15), sl15⟩)
    (c15 : PySem.W.codeIn K cd15 "law" = true)
    (k15 : PySem.W.keepIn K (.ref f15) = true)
    (zb_bool : PySem.W.nsIn K mainGlobals "bool" = some none)
    (zb_enumerate : PySem.W.nsIn K mainGlobals "enumerate" = some none)
    (zb_int : PySem.W.nsIn K mainGlobals "int" = some none)
    (zb_isinstance : PySem.W.nsIn K mainGlobals "isinstance" = some none)
    (zb_len : PySem.W.nsIn K mainGlobals "len" = some none)
    (zb_max : PySem.W.nsIn K mainGlobals "max" = some none)
    (zb_range : PySem.W.nsIn K mainGlobals "range" = some none)
    (zb_set : PySem.W.nsIn K mainGlobals "set" = some none)
    (zb_sorted : PySem.W.nsIn K mainGlobals "sorted" = some none)
    (zb_tuple : PySem.W.nsIn K mainGlobals "tuple" = some none)
    (zb_zip : PySem.W.nsIn K mainGlobals "zip" = some none)
    (zg_MAX_TIME : PySem.W.nsIn K mainGlobals "MAX_TIME" = some (some (.int 1000000000000000 t_MAX_TIME)))
    (zg_MAX_ASKER : PySem.W.nsIn K mainGlobals "MAX_ASKER" = some (some (.int 99 t_MAX_ASKER)))
    (zg_MAX_ASKS : PySem.W.nsIn K mainGlobals "MAX_ASKS" = some (some (.int 40 t_MAX_ASKS)))
    (zg_MAX_COUNT : PySem.W.nsIn K mainGlobals "MAX_COUNT" = some (some (.int 9 t_MAX_COUNT)))
    (zg_MAX_LENGTH : PySem.W.nsIn K mainGlobals "MAX_LENGTH" = some (some (.int 1000000000 t_MAX_LENGTH)))
    : ∃ (fd : FuncData) (G' : Gx), G'.K = K ∧ G'.mg = mg ∧ G'.T = [] ∧ (∀ (s : Shared) (v : Value), BindsTo s fd ⟨[v], []⟩ [("_law_script", v)]) ∧ ∀ base : Heap, K.In base → base.Ns mainGlobals mg → FnOk l.prog w K mg base (L2.CX l.prog w) 18 fa fd ["_law_script"] (lift G' F_law) := by
  have e := hfa.symm.trans (PySem.W.mg_of X G a15)
  cases e
  have T : Txt K mg C6 := ⟨PySem.W.mg_of X G zc6,
    ⟨zp6, zi6, zo6, zs6⟩,
    zm6,
    zk6,
    ya6_17,
    ya6_18,
    ya6_19,
    DefAt.mk' X G a0 l0 c0 k0,
    DefAt.mk' X G a1 l1 c1 k1,
    DefAt.mk' X G a2 l2 c2 k2,
    DefAt.mk' X G a3 l3 c3 k3,
    ⟨⟨_, _, a4, i4, fun_mk l4 c4 k4⟩⟩,
    ⟨⟨_, _, a5, i5, fun_mk l5 c5 k5⟩⟩,
    DefAt.mk' X G a6 l6 c6 k6,
    DefAt.mk' X G a7 l7 c7 k7,
    DefAt.mk' X G a8 l8 c8 k8,
    DefAt.mk' X G a9 l9 c9 k9,
    DefAt.mk' X G a10 l10 c10 k10,
    DefAt.mk' X G a11 l11 c11 k11,
    DefAt.mk' X G a12 l12 c12 k12,
    DefAt.mk' X G a13 l13 c13 k13,
    DefAt.mk' X G a14 l14 c14 k14,
    DefAt.mk' X G a15 l15 c15 k15,
    PySem.W.mg_none_of X G zb_bool,
    PySem.W.mg_none_of X G zb_enumerate,
    PySem.W.mg_none_of X G zb_int,
    PySem.W.mg_none_of X G zb_isinstance,
    PySem.W.mg_none_of X G zb_len,
    PySem.W.mg_none_of X G zb_max,
    PySem.W.mg_none_of X G zb_range,
    PySem.W.mg_none_of X G zb_set,
    PySem.W.mg_none_of X G zb_sorted,
    PySem.W.mg_none_of X G zb_tuple,
    PySem.W.mg_none_of X G zb_zip,
    gv_int (t := ⟨_, _, gx K mg, _, _⟩) (PySem.W.mg_of X G zg_MAX_TIME),
    gv_int (t := ⟨_, _, gx K mg, _, _⟩) (PySem.W.mg_of X G zg_MAX_ASKER),
    gv_int (t := ⟨_, _, gx K mg, _, _⟩) (PySem.W.mg_of X G zg_MAX_ASKS),
    gv_int (t := ⟨_, _, gx K mg, _, _⟩) (PySem.W.mg_of X G zg_MAX_COUNT),
    gv_int (t := ⟨_, _, gx K mg, _, _⟩) (PySem.W.mg_of X G zg_MAX_LENGTH)⟩
  exact ⟨_, gx K mg, rfl, rfl, rfl, fun s v => .of_eq rfl, fun base _ _ => ok_law_fn T (fun_mk (st := st_law) l15 c15 k15)⟩
end Ev

open PySem PySem.W PyProof.Rows in
set_option maxRecDepth 100000 in
set_option maxHeartbeats 0 in
theorem PySem.Challenge.cw_manymakers_k50_whole_marks_lent_again_holds : PySem.Challenge.rw_manymakers_k50_whole_marks_lent_again.Holds := by
  w_on; o_law; k_head; (case hw => w_witness2)
  k_fill
  refine Pf.walk_L (l := PySem.Challenge.rw_manymakers_k50_whole_marks_lent_again) (n := 63) (k := 18) (x := "_law_script") rfl (by decide) rfl ⟨rfl, by decide, by decide⟩ (fun w h Y => PySem.W.kIn_of Y) (Fl := Ev.F_law) Ev.law_true ?F
  case F =>
    intro w mg fa h KX G hmg
    refine' Ev.all_mk KX G hmg ?zc6 ?zp6 ?zi6 ?zo6 ?zs6 ?zm6 ?zk6 ?ya6_17 ?ya6_18 ?ya6_19 ?a0 ?l0 ?c0 ?k0 ?a1 ?l1 ?c1 ?k1 ?a2 ?l2 ?c2 ?k2 ?a3 ?l3 ?c3 ?k3 ?a4 ?i4 ?l4 ?c4 ?k4 ?a5 ?i5 ?l5 ?c5 ?k5 ?a6 ?l6 ?c6 ?k6 ?a7 ?l7 ?c7 ?k7 ?a8 ?l8 ?c8 ?k8 ?a9 ?l9 ?c9 ?k9 ?a10 ?l10 ?c10 ?k10 ?a11 ?l11 ?c11 ?k11 ?a12 ?l12 ?c12 ?k12 ?a13 ?l13 ?c13 ?k13 ?a14 ?l14 ?c14 ?k14 ?a15 ?l15 ?c15 ?k15 ?zb_bool ?zb_enumerate ?zb_int ?zb_isinstance ?zb_len ?zb_max ?zb_range ?zb_set ?zb_sorted ?zb_tuple ?zb_zip ?zg_MAX_TIME ?zg_MAX_ASKER ?zg_MAX_ASKS ?zg_MAX_COUNT ?zg_MAX_LENGTH
    (case zc6 => k_is)
    (case zp6 => k_is)
    (case zi6 => k_is)
    (case zo6 => k_is)
    (case zs6 => k_is)
    (case zm6 => k_is)
    (case zk6 => k_is)
    (case ya6_17 => k_is)
    (case ya6_18 => k_is)
    (case ya6_19 => k_is)
    (case a0 => k_is)
    (case l0 => k_is)
    (case c0 => k_is)
    (case k0 => k_is)
    (case a1 => k_is)
    (case l1 => k_is)
    (case c1 => k_is)
    (case k1 => k_is)
    (case a2 => k_is)
    (case l2 => k_is)
    (case c2 => k_is)
    (case k2 => k_is)
    (case a3 => k_is)
    (case l3 => k_is)
    (case c3 => k_is)
    (case k3 => k_is)
    (case a4 => k_is)
    (case i4 => k_is)
    (case l4 => k_is)
    (case c4 => k_is)
    (case k4 => k_is)
    (case a5 => k_is)
    (case i5 => k_is)
    (case l5 => k_is)
    (case c5 => k_is)
    (case k5 => k_is)
    (case a6 => k_is)
    (case l6 => k_is)
    (case c6 => k_is)
    (case k6 => k_is)
    (case a7 => k_is)
    (case l7 => k_is)
    (case c7 => k_is)
    (case k7 => k_is)
    (case a8 => k_is)
    (case l8 => k_is)
    (case c8 => k_is)
    (case k8 => k_is)
    (case a9 => k_is)
    (case l9 => k_is)
    (case c9 => k_is)
    (case k9 => k_is)
    (case a10 => k_is)
    (case l10 => k_is)
    (case c10 => k_is)
    (case k10 => k_is)
    (case a11 => k_is)
    (case l11 => k_is)
    (case c11 => k_is)
    (case k11 => k_is)
    (case a12 => k_is)
    (case l12 => k_is)
    (case c12 => k_is)
    (case k12 => k_is)
    (case a13 => k_is)
    (case l13 => k_is)
    (case c13 => k_is)
    (case k13 => k_is)
    (case a14 => k_is)
    (case l14 => k_is)
    (case c14 => k_is)
    (case k14 => k_is)
    (case a15 => k_is)
    (case l15 => k_is)
    (case c15 => k_is)
    (case k15 => k_is)
    (case zb_bool => k_is)
    (case zb_enumerate => k_is)
    (case zb_int => k_is)
    (case zb_isinstance => k_is)
    (case zb_len => k_is)
    (case zb_max => k_is)
    (case zb_range => k_is)
    (case zb_set => k_is)
    (case zb_sorted => k_is)
    (case zb_tuple => k_is)
    (case zb_zip => k_is)
    (case zg_MAX_TIME => k_is)
    (case zg_MAX_ASKER => k_is)
    (case zg_MAX_ASKS => k_is)
    (case zg_MAX_COUNT => k_is)
    (case zg_MAX_LENGTH => k_is)
#print axioms PySem.Challenge.cw_manymakers_k50_whole_marks_lent_again_holds
