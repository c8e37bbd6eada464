import PyProof.Rows.All
import Wide.All
import OpenK.AllK
import Wide.FinOn
import HandS.ForMost
import HandS.ForExc
import HandS.Slots
import KE.DataCmp
import KE.SortData
import HandS.TupAny
import HandS.Deep
import HandS.Wide
import HandS.IsInst
import HandS.Style
import PySem.Challenge.RW_manymakers_k53_whole_numbers_packed_in_o
set_option Elab.async false
set_option linter.all false
set_option maxRecDepth 100000
/-! ## The ledger: plain data, what stands at addresses, how both are borne by the hand layer's heap -/
namespace Lg
open PySem L2

mutual
/-- a value as plain data; ref: a thing that may be written, it stands in the ledger; fz: a thing that is written no more -/
inductive D where
  | non | bl (b : Bool) | int (i : Int) | str (x : Str) | ty (n : String)
  | tup (l : List D)
  | lsc (l : List D)
  | fz (o : O)
  | ref (a : Addr)
  | gl (x : Str)
  | clo (i : Nat) (l : List D)
  | exc (c : Str) (fs : List (Str × D))
/-- a thing: a list, a dict, an instance, an instance with slots, a set -/
inductive O where
  | lst (xs : List D)
  | dct (kvs : List (D × D))
  | ins (c : Str) (fs : List (Str × D))
  | sli (c : Str) (fs : List (Str × D))
  | set (xs : List D)
end
/-- a list that is written no more -/
abbrev D.lst (xs : List D) : D := .fz (.lst xs)

abbrev Led := Addr → Option O
def up (L : Led) (a : Addr) (o : O) : Led := fun b => if b = a then some o else L b
theorem up_same {L : Led} {a : Addr} {o : O} : up L a o a = some o := by simp [up]
theorem up_ne {L : Led} {a b : Addr} {o : O} (h : b ≠ a) : up L a o b = L b := by simp [up, h]
theorem up_up {L : Led} {a : Addr} {o u : O} : up (up L a o) a u = up L a u := by
  funext b; by_cases h : b = a <;> simp [up, h]
/-- without a -/
def rm (L : Led) (a : Addr) : Led := fun b => if b = a then none else L b
theorem rm_same {L : Led} {a : Addr} : rm L a a = none := by simp [rm]
theorem rm_ne {L : Led} {a b : Addr} (h : b ≠ a) : rm L a b = L b := by simp [rm, h]

/-- the ledger with what is written no more -/
structure Lx where
  u : Led
  F : Addr → Prop
def Lx.up (L : Lx) (a : Addr) (o : O) : Lx := ⟨Lg.up L.u a o, L.F⟩
def Lx.fz (L : Lx) (a : Addr) : Lx := ⟨L.u, fun b => L.F b ∨ b = a⟩
theorem Lx.up_u {L : Lx} {a : Addr} {o : O} : (L.up a o).u = Lg.up L.u a o := rfl
theorem Lx.up_F {L : Lx} {a : Addr} {o : O} : (L.up a o).F = L.F := rfl
theorem Lx.fz_u {L : Lx} {a : Addr} : (L.fz a).u = L.u := rfl
/-- a is taken out of the ledger, it is written no more -/
def Lx.frz (L : Lx) (a : Addr) : Lx := ⟨rm L.u a, fun b => L.F b ∨ b = a⟩

/-- the module: its written part, its names -/
structure Gx where
  K : PySem.W.Frag
  mg : Str → Option Value

/-- a tuple stands at a -/
def TupAt (G : Gx) (F : Addr → Prop) (H : Hp) (a : Addr) (xs : List V) : Prop :=
  (F a ∧ H a = some (.tup xs)) ∨
    ∃ (o : Obj) (its : Array Value) (n : Nat), G.K.lookup a = some o ∧ o.cls = .type "tuple" ∧ o.data = .seq its n ∧ its.size ≤ sizeLine ∧ Vals xs its.toList
/-- a list that was there ahead of all -/
def LscAt (G : Gx) (F : Addr → Prop) (H : Hp) (a : Addr) (xs : List V) : Prop :=
  (F a ∧ ∃ o, H a = some (.frz o (.lst xs))) ∨
    ∃ (o : Obj) (its : Array Value) (n : Nat), G.K.lookup a = some o ∧ o.cls = .type "list" ∧ o.dict = none ∧ o.data = .seq its n ∧ its.size ≤ sizeLine ∧ Vals xs its.toList
/-- the slots by name -/
def SlotsOk (K : PySem.W.Frag) (C : Addr) (vs : List (Str × V)) (ws : List (Option V)) : Prop := ∀ f v, vs.lookup f = some v → ∃ p i, SlX.Slot1 K C f p i ∧ ws[i]? = some (some v)

mutual
inductive RV (G : Gx) (F : Addr → Prop) (H : Hp) : D → V → Prop
  | non : RV G F H .non .non
  | bl (b : Bool) : RV G F H (.bl b) (.bl b)
  | int (i : Int) : RV G F H (.int i) (.int i)
  | str (x : Str) : RV G F H (.str x) (.str x)
  | ty (n : String) : RV G F H (.ty n) (.ty n)
  | tup {a : Addr} {l : List D} {xs : List V} : TupAt G F H a xs → RVs G F H l xs → RV G F H (.tup l) (.ref a)
  | fz {a : Addr} {o : O} : F a → RO G F H a o → RV G F H (.fz o) (.ref a)
  | scr {a : Addr} {l : List D} {xs : List V} : LscAt G F H a xs → RVs G F H l xs → RV G F H (.lsc l) (.ref a)
  | ref (a : Addr) : RV G F H (.ref a) (.ref a)
  | gl {x : Str} {a : Addr} : G.mg x = some (.ref a) → RV G F H (.gl x) (.ref a)
inductive RVs (G : Gx) (F : Addr → Prop) (H : Hp) : List D → List V → Prop
  | nil : RVs G F H [] []
  | cons {d : D} {v : V} {l : List D} {xs : List V} : RV G F H d v → RVs G F H l xs → RVs G F H (d :: l) (v :: xs)
inductive RFs (G : Gx) (F : Addr → Prop) (H : Hp) : List (Str × D) → List (Str × V) → Prop
  | nil : RFs G F H [] []
  | cons {f : Str} {d : D} {v : V} {l : List (Str × D)} {xs : List (Str × V)} : RV G F H d v → RFs G F H l xs → RFs G F H ((f, d) :: l) ((f, v) :: xs)
inductive RPs (G : Gx) (F : Addr → Prop) (H : Hp) : List (D × D) → List (V × V) → Prop
  | nil : RPs G F H [] []
  | cons {k d : D} {z v : V} {l : List (D × D)} {xs : List (V × V)} : RV G F H k z → RV G F H d v → RPs G F H l xs → RPs G F H ((k, d) :: l) ((z, v) :: xs)
inductive RO (G : Gx) (F : Addr → Prop) (H : Hp) : Addr → O → Prop
  | lst {a : Addr} {xs : List D} {vs : List V} : H a = some (.lst vs) → RVs G F H xs vs → RO G F H a (.lst xs)
  | dK {a : Addr} {kvs : List (D × D)} {kk : List (Key × V)} : H a = some (.dK kk) → RPs G F H kvs (kk.map fun p => (kV p.1, p.2)) → RO G F H a (.dct kvs)
  | ins {a C dx : Addr} {c : Str} {fs : List (Str × D)} {vs : List (Str × V)} : G.mg c = some (.ref C) → H a = some (.ins C dx vs) → RFs G F H fs vs → RO G F H a (.ins c fs)
  | sl0 {a C dx : Addr} {c : Str} : G.mg c = some (.ref C) → H a = some (.ins C dx []) → RO G F H a (.sli c [])
  | sl1 {a C dx : Addr} {c : Str} {fs : List (Str × D)} {vs : List (Str × V)} {ws : List (Option V)} : G.mg c = some (.ref C) → H a = some (SlX.SlO a C dx ws) → F dx → H dx = some (.xd []) → SlotsOk G.K C vs ws → RFs G F H fs vs → RO G F H a (.sli c fs)
end

/-- the ledger is borne -/
structure RL (G : Gx) (L : Lx) (H : Hp) : Prop where
  at_ : ∀ a o, L.u a = some o → RO G L.F H a o
  fz : ∀ a, L.F a → L.u a = none ∧ ∃ o, H a = some o ∧ ∀ y, o ≠ .own y

/-- what is not of the ledger stays; what comes to the ledger is new -/
structure Ext (L : Lx) (H : Hp) (L' : Lx) (H' : Hp) : Prop where
  keep : ∀ b o, H b = some o → L.u b = none → (∀ y, o ≠ .own y) → H' b = some o
  trk : ∀ b, H' b = none → H b = none
  fz : ∀ b, L.F b → L'.F b
  new : ∀ b, L'.u b ≠ none → L.u b ≠ none ∨ H b = none
  newF : ∀ b, L'.F b → L.F b ∨ L.u b ≠ none ∨ H b = none ∨ ∃ y, H b = some (.own y)
theorem Ext.refl {L : Lx} {H : Hp} : Ext L H L H := ⟨fun _ _ h _ _ => h, fun _ h => h, fun _ h => h, fun _ h => .inl h, fun _ h => .inl h⟩
theorem Ext.off {L L' : Lx} {H H' : Hp} (e : Ext L H L' H') {b : Addr} {o : HO} (h : H b = some o) (n : L.u b = none) : L'.u b = none := by
  cases q : L'.u b with
  | none => rfl
  | some u =>
    rcases e.new b (by simp [q]) with z | z
    · exact absurd n z
    · rw [h] at z; cases z
theorem not_own {H : Hp} {b : Addr} : (∃ y, H b = some (.own y)) ∨ ∀ o, H b = some o → ∀ y, o ≠ .own y := by
  by_cases h : ∃ y, H b = some (.own y)
  · exact .inl h
  · exact .inr fun o e y z => h ⟨y, by rw [e, z]⟩
theorem Ext.trans {L L1 L2 : Lx} {H H1 H2 : Hp} (a : Ext L H L1 H1) (b : Ext L1 H1 L2 H2) : Ext L H L2 H2 := by
  refine ⟨fun c o h n y => b.keep c o (a.keep c o h n y) (a.off h n) y, fun c h => a.trk c (b.trk c h), fun c h => b.fz c (a.fz c h), fun c h => ?_, fun c h => ?_⟩
  · rcases b.new c h with z | z
    · exact a.new c z
    · exact .inr (a.trk c z)
  · rcases b.newF c h with z | z | z | ⟨y, z⟩
    · exact a.newF c z
    · rcases a.new c z with z | z
      · exact .inr (.inl z)
      · exact .inr (.inr (.inl z))
    · exact .inr (.inr (.inl (a.trk c z)))
    · rcases not_own (H := H) (b := c) with w | w
      · exact .inr (.inr (.inr w))
      · cases q : H c with
        | none => exact .inr (.inr (.inl rfl))
        | some o =>
          by_cases n : L.u c = none
          · have := a.keep c o q n (w o q)
            rw [z] at this
            cases this
            exact absurd rfl (w _ q y)
          · exact .inr (.inl n)

/-- what values lean on stays -/
def Keep (F : Addr → Prop) (H : Hp) (F' : Addr → Prop) (H' : Hp) : Prop := ∀ a, F a → F' a ∧ ∀ o, H a = some o → H' a = some o
theorem Ext.kp {G : Gx} {L L' : Lx} {H H' : Hp} (r : RL G L H) (e : Ext L H L' H') : Keep L.F H L'.F H' := fun a h => ⟨e.fz a h, fun o q => by
  obtain ⟨n, u, q', y⟩ := r.fz a h
  rw [q] at q'; cases q'
  exact e.keep a o q n y⟩
section
variable {G : Gx} {F F' : Addr → Prop} {H H' : Hp} {a : Addr}
theorem TupAt.keep {xs : List V} (e : Keep F H F' H') (h : TupAt G F H a xs) : TupAt G F' H' a xs := by
  rcases h with ⟨h, n⟩ | h
  · exact .inl ⟨(e a h).1, (e a h).2 _ n⟩
  · exact .inr h
theorem LscAt.keep {xs : List V} (e : Keep F H F' H') (h : LscAt G F H a xs) : LscAt G F' H' a xs := by
  rcases h with ⟨h, o, n⟩ | h
  · exact .inl ⟨(e a h).1, o, (e a h).2 _ n⟩
  · exact .inr h
mutual
theorem RV.keep (e : Keep F H F' H') : ∀ {d : D} {v : V}, RV G F H d v → RV G F' H' d v
  | _, _, .non => .non
  | _, _, .bl b => .bl b
  | _, _, .int i => .int i
  | _, _, .str x => .str x
  | _, _, .ty n => .ty n
  | _, _, .tup h r => .tup (h.keep e) (RVs.keep e r)
  | _, _, .fz h r => .fz (e _ h).1 (RO.keep e (e _ h).2 r)
  | _, _, .scr h r => .scr (h.keep e) (RVs.keep e r)
  | _, _, .ref a => .ref a
  | _, _, .gl h => .gl h
theorem RVs.keep (e : Keep F H F' H') : ∀ {l : List D} {xs : List V}, RVs G F H l xs → RVs G F' H' l xs
  | _, _, .nil => .nil
  | _, _, .cons h t => .cons (RV.keep e h) (RVs.keep e t)
theorem RFs.keep (e : Keep F H F' H') : ∀ {l : List (Str × D)} {xs : List (Str × V)}, RFs G F H l xs → RFs G F' H' l xs
  | _, _, .nil => .nil
  | _, _, .cons h t => .cons (RV.keep e h) (RFs.keep e t)
theorem RPs.keep (e : Keep F H F' H') : ∀ {l : List (D × D)} {xs : List (V × V)}, RPs G F H l xs → RPs G F' H' l xs
  | _, _, .nil => .nil
  | _, _, .cons k h t => .cons (RV.keep e k) (RV.keep e h) (RPs.keep e t)
theorem RO.keep (e : Keep F H F' H') : ∀ {a : Addr} {o : O}, (∀ u, H a = some u → H' a = some u) → RO G F H a o → RO G F' H' a o
  | _, _, s, .lst h r => .lst (s _ h) (RVs.keep e r)
  | _, _, s, .dK h r => .dK (s _ h) (RPs.keep e r)
  | _, _, s, .ins m h r => .ins m (s _ h) (RFs.keep e r)
  | _, _, s, .sl0 m h => .sl0 m (s _ h)
  | _, _, s, .sl1 m h f x o r => .sl1 m (s _ h) (e _ f).1 ((e _ f).2 _ x) o (RFs.keep e r)
end
/-- more is written no more -/
theorem Keep.more (h : ∀ a, F a → F' a) : Keep F H F' H := fun a q => ⟨h a q, fun _ z => z⟩
theorem Keep.refl : Keep F H F H := Keep.more fun _ h => h
theorem RVs.length : ∀ {l : List D} {xs : List V}, RVs G F H l xs → l.length = xs.length
  | _, _, .nil => rfl
  | _, _, .cons _ t => by simp [RVs.length t]
theorem RVs.get : ∀ {l : List D} {xs : List V} {i : Nat} {d : D}, RVs G F H l xs → l[i]? = some d → ∃ v, xs[i]? = some v ∧ RV G F H d v
  | _, _, _, _, .nil, h => by simp at h
  | _, _, 0, _, .cons h _, e => by simp at e; subst e; exact ⟨_, rfl, h⟩
  | _, _, i + 1, _, .cons _ t, e => by
    obtain ⟨v, h1, h2⟩ := RVs.get (i := i) t (by simpa using e)
    exact ⟨v, by simpa using h1, h2⟩
theorem RVs.getV : ∀ {l : List D} {xs : List V} {i : Nat} {v : V}, RVs G F H l xs → xs[i]? = some v → ∃ d, l[i]? = some d ∧ RV G F H d v
  | _, _, _, _, .nil, h => by simp at h
  | _, _, 0, _, .cons h _, e => by simp at e; subst e; exact ⟨_, rfl, h⟩
  | _, _, i + 1, _, .cons _ t, e => by
    obtain ⟨v, h1, h2⟩ := RVs.getV (i := i) t (by simpa using e)
    exact ⟨v, by simpa using h1, h2⟩
theorem RVs.append : ∀ {l m : List D} {xs ys : List V}, RVs G F H l xs → RVs G F H m ys → RVs G F H (l ++ m) (xs ++ ys)
  | _, _, _, _, .nil, s => s
  | _, _, _, _, .cons h t, s => .cons h (RVs.append t s)
theorem RVs.set {d : D} {v : V} (r : RV G F H d v) : ∀ {l : List D} {xs : List V} (i : Nat), RVs G F H l xs → RVs G F H (l.set i d) (xs.set i v)
  | _, _, _, .nil => .nil
  | _, _, 0, .cons _ t => .cons r t
  | _, _, i + 1, .cons h t => .cons h (RVs.set r i t)
theorem RVs.take : ∀ {l : List D} {xs : List V} (n : Nat), RVs G F H l xs → RVs G F H (l.take n) (xs.take n)
  | _, _, 0, _ => by simpa using RVs.nil
  | _, _, _ + 1, .nil => .nil
  | _, _, n + 1, .cons h t => .cons h (RVs.take n t)
theorem RVs.drop : ∀ {l : List D} {xs : List V} (n : Nat), RVs G F H l xs → RVs G F H (l.drop n) (xs.drop n)
  | _, _, 0, r => by simpa using r
  | _, _, _ + 1, .nil => .nil
  | _, _, n + 1, .cons _ t => RVs.drop n t
theorem RVs.ints : ∀ {ns : List Int} {xs : List V}, RVs G F H (ns.map D.int) xs → xs = ns.map V.int
  | [], _, h => by cases h; rfl
  | n :: ns, _, h => by
    cases h with
    | cons h t =>
      cases h
      rw [RVs.ints t]; rfl
theorem RVs.ofInts : ∀ (ns : List Int), RVs G F H (ns.map D.int) (ns.map V.int)
  | [] => .nil
  | n :: ns => .cons (.int n) (RVs.ofInts ns)
theorem RFs.look : ∀ {l : List (Str × D)} {xs : List (Str × V)} {f : Str} {d : D}, RFs G F H l xs → l.lookup f = some d → ∃ v, xs.lookup f = some v ∧ RV G F H d v
  | _, _, _, _, .nil, h => by simp at h
  | _, _, f, _, .cons (f := g) h t, e => by
    simp only [List.lookup_cons] at e ⊢
    cases q : f == g with
    | true => rw [q] at e; cases e; exact ⟨_, rfl, h⟩
    | false => rw [q] at e; exact RFs.look t e
theorem RFs.names : ∀ {l : List (Str × D)} {xs : List (Str × V)}, RFs G F H l xs → l.map (·.1) = xs.map (·.1)
  | _, _, .nil => rfl
  | _, _, .cons h t => by simp [RFs.names t]
end
section
variable {G : Gx} {L L' : Lx} {H H' : Hp} {a p : Addr}
theorem RV.ext {d : D} {v : V} (r : RL G L H) (e : Ext L H L' H') (h : RV G L.F H d v) : RV G L'.F H' d v := h.keep (e.kp r)
theorem RVs.ext {d : List D} {v : List V} (r : RL G L H) (e : Ext L H L' H') (h : RVs G L.F H d v) : RVs G L'.F H' d v := h.keep (e.kp r)
/-- a thing that is borne is tracked -/
theorem RO.some {o : O} (h : RO G L.F H a o) : ∃ u, H a = some u ∧ ∀ y, u ≠ .own y := by
  cases h with
  | lst h _ => exact ⟨_, h, fun _ z => nomatch z⟩
  | dK h _ => exact ⟨_, h, fun _ z => nomatch z⟩
  | ins _ h _ => exact ⟨_, h, fun _ z => nomatch z⟩
  | sl0 _ h => exact ⟨_, h, fun _ z => nomatch z⟩
  | sl1 _ h _ _ _ _ => exact ⟨_, h, fun _ z => nomatch z⟩
theorem RL.tracked (r : RL G L H) (h : L.u a ≠ none) : H a ≠ none := by
  cases q : L.u a with
  | none => exact absurd q h
  | some o =>
    obtain ⟨u, e, _⟩ := (r.at_ a o q).some
    simp [e]
theorem RL.free (r : RL G L H) (h : H a = none) : L.u a = none := by
  cases q : L.u a with
  | none => rfl
  | some o => exact absurd h (r.tracked (by simp [q]))
theorem RL.freeF (r : RL G L H) (h : H a = none) : ¬ L.F a := fun z => by
  obtain ⟨_, o, e, _⟩ := r.fz a z
  rw [h] at e; cases e
theorem RL.apart (r : RL G L H) (h : L.u a ≠ none) : ¬ L.F a := fun z => h (r.fz a z).1

/-! ### a new thing that is written no more -/
theorem Ext.newF' {o : HO} (h : H p = none) : Ext L H (L.fz p) (upd H p o) where
  keep := fun b u e _ _ => by rw [upd_ne (ne_of_none e h)]; exact e
  trk := fun b e => by
    by_cases z : b = p
    · subst z; exact h
    · rw [upd_ne z] at e; exact e
  fz := fun b e => .inl e
  new := fun b e => .inl e
  newF := fun b e => by
    rcases e with e | e
    · exact .inl e
    · subst e; exact .inr (.inr (.inl h))
theorem RL.newF {o : HO} (r : RL G L H) (h : H p = none) (ho : ∀ y, o ≠ .own y) : RL G (L.fz p) (upd H p o) where
  at_ := fun a u e => (r.at_ a u e).keep ((Ext.newF' h).kp r) fun w q => by rw [upd_ne (ne_of_none q h)]; exact q
  fz := fun a e => by
    rcases e with e | e
    · obtain ⟨n, u, q, y⟩ := r.fz a e
      exact ⟨n, u, by rw [upd_ne (ne_of_none q h)]; exact q, y⟩
    · subst e; exact ⟨r.free h, o, upd_same, ho⟩
/-! ### a new thing of the ledger -/
theorem Ext.newL {o : HO} {u : O} (h : H p = none) : Ext L H (L.up p u) (upd H p o) where
  keep := fun b u e _ _ => by rw [upd_ne (ne_of_none e h)]; exact e
  trk := fun b e => by
    by_cases z : b = p
    · subst z; exact h
    · rw [upd_ne z] at e; exact e
  fz := fun b e => e
  new := fun b z => by
    by_cases e : b = p
    · subst e; exact .inr h
    · exact .inl (by rwa [Lx.up_u, up_ne e] at z)
  newF := fun b e => .inl e
theorem RL.newL {o : HO} {u : O} (r : RL G L H) (h : H p = none) (ro : RO G L.F (upd H p o) p u) : RL G (L.up p u) (upd H p o) where
  at_ := fun a w e => by
    by_cases z : a = p
    · subst z
      rw [Lx.up_u, up_same] at e; cases e
      exact ro
    · rw [Lx.up_u, up_ne z] at e
      exact (r.at_ a w e).keep ((Ext.newL (u := u) h).kp r) fun w q => by rw [upd_ne z]; exact q
  fz := fun a e => by
    obtain ⟨n, w, q, y⟩ := r.fz a e
    have z := ne_of_none q h
    exact ⟨by rw [Lx.up_u, up_ne z]; exact n, w, by rw [upd_ne z]; exact q, y⟩
/-! ### a thing of the ledger is changed -/
theorem Ext.chg {o : HO} {u : O} (h : L.u p ≠ none) : Ext L H (L.up p u) (upd H p o) where
  keep := fun b w e n _ => by
    have hb : b ≠ p := fun z => by subst z; exact h n
    rw [upd_ne hb]; exact e
  trk := fun b e => by
    by_cases z : b = p
    · subst z; rw [upd_same] at e; cases e
    · rw [upd_ne z] at e; exact e
  fz := fun b e => e
  new := fun b z => by
    by_cases e : b = p
    · subst e; exact .inl h
    · exact .inl (by rwa [Lx.up_u, up_ne e] at z)
  newF := fun b e => .inl e
theorem RL.chg {o : HO} {u : O} (r : RL G L H) (h : L.u p ≠ none) (ro : RO G L.F (upd H p o) p u) : RL G (L.up p u) (upd H p o) where
  at_ := fun a w e => by
    by_cases z : a = p
    · subst z
      rw [Lx.up_u, up_same] at e; cases e
      exact ro
    · rw [Lx.up_u, up_ne z] at e
      exact (r.at_ a w e).keep ((Ext.chg (u := u) h).kp r) fun w q => by rw [upd_ne z]; exact q
  fz := fun a e => by
    obtain ⟨n, w, q, y⟩ := r.fz a e
    have z : a ≠ p := fun z => by subst z; exact h n
    exact ⟨by rw [Lx.up_u, up_ne z]; exact n, w, by rw [upd_ne z]; exact q, y⟩
theorem Keep.chg {o : HO} (r : RL G L H) (h : L.u p ≠ none) : Keep L.F H L.F (upd H p o) := fun a q => ⟨q, fun u e => by
  have z : a ≠ p := fun z => r.apart h (by rw [← z]; exact q)
  rw [upd_ne z]; exact e⟩
theorem Keep.new {o : HO} (h : H p = none) : Keep L.F H L.F (upd H p o) := fun a q => ⟨q, fun u e => by rw [upd_ne (ne_of_none e h)]; exact e⟩

/-! ### a list that is tracked, and neither of the ledger nor written no more: grown, then taken in -/
theorem Keep.poke {o : HO} (n : ¬ L.F p) : Keep L.F H L.F (upd H p o) := fun a q => ⟨q, fun u e => by
  have z : a ≠ p := fun z => n (by rw [← z]; exact q)
  rw [upd_ne z]; exact e⟩
theorem RL.poke {o : HO} (r : RL G L H) (n : L.u p = none) (nf : ¬ L.F p) : RL G L (upd H p o) where
  at_ := fun a w e => (r.at_ a w e).keep (Keep.poke nf) fun u q => by
    have z : a ≠ p := fun z => by subst z; rw [n] at e; cases e
    rw [upd_ne z]; exact q
  fz := fun a e => by
    obtain ⟨m, w, q, y⟩ := r.fz a e
    have z : a ≠ p := fun z => nf (by rw [← z]; exact e)
    exact ⟨m, w, by rw [upd_ne z]; exact q, y⟩
theorem RL.adopt {u : O} (r : RL G L H) (nf : ¬ L.F p) (ro : RO G L.F H p u) : RL G (L.up p u) H where
  at_ := fun a w e => by
    by_cases z : a = p
    · subst z
      rw [Lx.up_u, up_same] at e; cases e
      exact ro
    · rw [Lx.up_u, up_ne z] at e
      exact r.at_ a w e
  fz := fun a e => by
    obtain ⟨m, w, q, y⟩ := r.fz a e
    have z : a ≠ p := fun z => nf (by rw [← z]; exact e)
    exact ⟨by rw [Lx.up_u, up_ne z]; exact m, w, q, y⟩
theorem RL.adoptF {o : HO} (r : RL G L H) (n : L.u p = none) (e : H p = Option.some o) (ho : ∀ y, o ≠ .own y) : RL G (L.fz p) H where
  at_ := fun a w e => (r.at_ a w e).keep (Keep.more fun _ h => .inl h) fun _ q => q
  fz := fun a z => by
    rcases z with z | z
    · exact r.fz a z
    · subst z; exact ⟨n, o, e, ho⟩

/-! ### a smaller ledger -/
def Sub (L L' : Led) : Prop := ∀ a o, L a = some o → L' a = some o
theorem Sub.refl {L : Led} : Sub L L := fun _ _ h => h
theorem Sub.trans {L L1 L2 : Led} (a : Sub L L1) (b : Sub L1 L2) : Sub L L2 := fun c o h => b c o (a c o h)
theorem Sub.up {L L' : Led} {p : Addr} {o : O} (h : Sub L L') (hp : L p = none) : Sub L (Lg.up L' p o) := fun a u e => by
  rw [up_ne (fun z => by rw [z, hp] at e; cases e)]; exact h a u e
theorem Sub.set {L L' : Led} {p : Addr} {o : O} (h : Sub L L') : Sub (Lg.up L p o) (Lg.up L' p o) := fun a u e => by
  by_cases z : a = p
  · subst z; rw [up_same] at e ⊢; exact e
  · rw [up_ne z] at e ⊢; exact h a u e
theorem Sub.off {L L' : Led} (h : Sub L L') {a : Addr} (n : L' a = none) : L a = none := by
  cases q : L a with
  | none => rfl
  | some o => rw [h a o q] at n; cases n
/-- things of the ledger are forgotten -/
theorem Ext.forget {M : Led} (e : Ext L H L' H') (s : Sub M L'.u) : Ext L H ⟨M, L'.F⟩ H' :=
  ⟨e.keep, e.trk, e.fz, fun b h => e.new b fun z => h (s.off z), e.newF⟩
theorem RL.forget {M : Led} (r : RL G L H) (s : Sub M L.u) : RL G ⟨M, L.F⟩ H where
  at_ := fun a o e => r.at_ a o (s a o e)
  fz := fun a e => ⟨s.off (r.fz a e).1, (r.fz a e).2⟩
end
end Lg

set_option Elab.async false
set_option linter.all false
set_option maxRecDepth 100000
/-! ## What a def's text asks, as a function of the text -/
namespace Lg
open PySem L2

abbrev Rho := List (Option D)
/-- what is wanted of an exception: its class, its fields, the ledger -/
abbrev Ex := Str → List (Str × D) → Led → Prop
abbrev DK := D → Led → Prop
/-- a def's promise -/
abbrev Spec := List D → Led → DK → Ex → Prop

/-- built-in functions and classes called by name -/
inductive Bi where
  | len | int | all | isInt | isBool | isTuple | tuple | list | max2 | min2 | sorted
  deriving DecidableEq
/-- methods of built-in types -/
inductive Me where
  | append
  deriving DecidableEq

inductive T where
  | n (i : Nat)
  | tu (ts : List T)

mutual
inductive E where
  | v (i : Nat)
  | c (d : D)
  | g (x : Str) (d : D)
  | neg (a : E)
  | bin (o : Operator) (a b : E)
  | cmp (o : CmpOp) (a b : E)
  | chain (o p : CmpOp) (a b c : E)
  | and (a b : E) | or (a b : E) | not (a : E)
  | ite (t : B) (a b : E)
  | tup (es : List E) | lst (es : List E)
  | ix (a i : E)
  | sl (a : E) (lo hi : Option E)
  | call (f : Str) (S : Spec) (es : List E)
  | bi (f : Bi) (es : List E)
  | me (m : Me) (o : E) (es : List E)
  | lc (e : E) (t : T) (it : I) (ifs : List B) (own : List (Str × Nat))
inductive B where
  | and (a b : B) | or (a b : B) | not (a : B) | e (a : E)
  | cmp (o : CmpOp) (a b : E)
  | chain (o p : CmpOp) (a b c : E)
inductive I where
  | seq (a : E) | r1 (a : E) | r2 (a b : E)
end

inductive S where
  | asg (t : T) (e : E)
  | asgLc (i : Nat) (e : E)
  | par (is : List Nat) (es : List E)
  | setI (o i e : E)
  | ex (e : E) | ret (e : E) | retN | pass | brk | cont
  | ife (t : B) (a b : List S)
  | for_ (t : T) (it : I) (body : List S)
  | whl (t : B) (body : List S)
  | nev

/-! ### operations on data -/
def line : Nat := 16777216
def cutD (xs : List D) (lo hi : Option Int) : List D := (xs.drop (HT.sIx xs.length 0 lo)).take (HT.sIx xs.length xs.length hi - HT.sIx xs.length 0 lo)
/-- sizes that a product, a power, a range must keep -/
def mulOk (i j : Int) : Prop := ((-(2 ^ 64) < i ∧ i < 2 ^ 64) ∨ (-(2 ^ 64) < j ∧ j < 2 ^ 64))
def powOk (i j : Int) : Prop := 0 ≤ j ∧ j ≤ 1000000 ∧ i.natAbs < 2 ^ 64
def rngOk (j : Int) : Prop := -(2 ^ 62) ≤ j ∧ j < 2 ^ 62
theorem mulR {i j : Int} (h1 : -18446744073709551616 < j) (h2 : j < 18446744073709551616) : mulOk i j := .inr ⟨h1, h2⟩
theorem mulL {i j : Int} (h1 : -18446744073709551616 < i) (h2 : i < 18446744073709551616) : mulOk i j := .inl ⟨h1, h2⟩
theorem powI {i j : Int} (h0 : 0 ≤ j) (h1 : j ≤ 1000000) (h2 : i.natAbs < 18446744073709551616) : powOk i j := ⟨h0, h1, h2⟩
theorem rngI {j : Int} (h1 : -4611686018427387904 ≤ j) (h2 : j < 4611686018427387904) : rngOk j := ⟨h1, h2⟩
@[simp] theorem mulR_lit {i j : Int} (h1 : -18446744073709551616 < j) (h2 : j < 18446744073709551616) : mulOk i j = True := eq_true (mulR h1 h2)
@[simp] theorem pow_lit {i j : Int} (h0 : 0 ≤ j) (h1 : j ≤ 1000000) (h2 : 0 ≤ i) (h3 : i < 18446744073709551616) : powOk i j = True := eq_true (powI h0 h1 (by omega))
@[simp] theorem rng_lit {j : Int} (h1 : -4611686018427387904 ≤ j) (h2 : j < 4611686018427387904) : rngOk j = True := eq_true (rngI h1 h2)
/-- a new thing: one that is written no more, or one of the ledger -/
def newO (L : Led) (o : O) (Q : DK) : Prop := Q (.fz o) L ∨ ∀ p, L p = none → Q (.ref p) (up L p o)
def newW (L : Led) (xs : List D) (Q : DK) : Prop := xs.length ≤ line ∧ newO L (.lst xs) Q
/-- what thing it is -/
def lookW (d : D) (L : Led) (Q : O → Prop) : Prop :=
  match d with
  | .fz o => Q o
  | .ref a => ∃ o, L a = some o ∧ Q o
  | _ => False
/-- the items of a list that was made here -/
def lstM (d : D) (L : Led) (Q : List D → Prop) : Prop :=
  match d with
  | .fz (.lst l) => Q l
  | .ref a => ∃ l, L a = some (.lst l) ∧ Q l
  | _ => False
/-- the items of a list -/
def lstW (d : D) (L : Led) (Q : List D → Prop) : Prop :=
  match d with
  | .lsc l => Q l
  | .fz (.lst l) => Q l
  | .ref a => ∃ l, L a = some (.lst l) ∧ Q l
  | _ => False
def binW (o : Operator) (a b : D) (L : Led) (Q : DK) : Prop :=
  match o, a, b with
  | .Add, .int i, .int j => Q (.int (i + j)) L
  | .Sub, .int i, .int j => Q (.int (i - j)) L
  | .Mult, .int i, .int j => mulOk i j ∧ Q (.int (i * j)) L
  | .FloorDiv, .int i, .int j => (0 < j ∧ j < 18446744073709551616) ∧ Q (.int (i / j)) L
  | .Mod, .int i, .int j => 0 < j ∧ Q (.int (i % j)) L
  | .Pow, .int i, .int j => powOk i j ∧ Q (.int (i ^ j.toNat)) L
  | .LShift, .int i, .int j => powOk i j ∧ Q (.int (i * 2 ^ j.toNat)) L
  | .Add, .str x, .str y => x.length + y.length ≤ line ∧ Q (.str (x ++ y)) L
  | .Add, .tup l, .tup m => l.length + m.length ≤ line ∧ Q (.tup (l ++ m)) L
  | .Add, d, e => lstM d L fun xs => lstM e L fun ys => newW L (xs ++ ys) Q
  | _, _, _ => False

/-! how data look -/
mutual
inductive Vw (L : Led) : D → PyData → Prop
  | non : Vw L .non .none
  | bl (b : Bool) : Vw L (.bl b) (.bool b)
  | int (i : Int) : Vw L (.int i) (.int i)
  | str (x : Str) : Vw L (.str x) (.str x)
  | tup {l : List D} {ds : List PyData} : Vws L l ds → Vw L (.tup l) (.tuple ds)
  | lsc {l : List D} {ds : List PyData} : Vws L l ds → Vw L (.lsc l) (.list ds)
  | fz {l : List D} {ds : List PyData} : Vws L l ds → Vw L (.fz (.lst l)) (.list ds)
  | ref {a : Addr} {l : List D} {ds : List PyData} : L a = some (.lst l) → Vws L l ds → Vw L (.ref a) (.list ds)
inductive Vws (L : Led) : List D → List PyData → Prop
  | nil : Vws L [] []
  | cons {d : D} {l : List D} {e : PyData} {ds : List PyData} : Vw L d e → Vws L l ds → Vws L (d :: l) (e :: ds)
end
def eqW (a b : D) (L : Led) (Q : Bool → Prop) : Prop :=
  match a, b with
  | .int i, .int j => Q (decide (i = j))
  | .str x, .str y => Q (decide (x = y))
  | _, _ => ∃ d e, Vw L a d ∧ Vw L b e ∧ SeqAt.shaped d = true ∧ SeqAt.shaped e = true ∧ Q (PyData.eqv d e)
def isNonD : D → Bool
  | .non => true
  | _ => false
/-- the ints of data -/
def intsOf : List D → Option (List Int)
  | [] => some []
  | .int i :: r => (intsOf r).map (i :: ·)
  | _ :: _ => none
def scalD : D → Bool
  | .non => true | .int _ => true | .str _ => true | .bl _ => true
  | _ => false
/-- the order of data that are alike -/
def ordW (a b : D) (L : Led) (Q : PyData → PyData → Prop) : Prop := ∃ d e, Vw L a d ∧ Vw L b e ∧ PySem.W.alike d e = true ∧ d ≠ .none ∧ SeqAt.shaped d = true ∧ Q d e
/-- the items of a sequence -/
def itemsW (b : D) (L : Led) (Q : List D → Prop) : Prop :=
  match b with
  | .tup l => Q l
  | d => lstW d L Q
def cmpW (o : CmpOp) (a b : D) (L : Led) (Q : DK) : Prop :=
  match o with
  | .Eq => eqW a b L fun c => Q (.bl c) L
  | .NotEq => eqW a b L fun c => Q (.bl (!c)) L
  | .Is => match b with
    | .non => Q (.bl (isNonD a)) L
    | _ => False
  | .IsNot => match b with
    | .non => Q (.bl (!isNonD a)) L
    | _ => False
  | .Lt => match a, b with
    | .int i, .int j => Q (.bl (decide (i < j))) L
    | _, _ => ordW a b L fun d e => Q (.bl (PySem.W.dataLt d e)) L
  | .LtE => match a, b with
    | .int i, .int j => Q (.bl (decide (i ≤ j))) L
    | _, _ => ordW a b L fun d e => Q (.bl (!PySem.W.dataLt e d)) L
  | .Gt => match a, b with
    | .int i, .int j => Q (.bl (decide (j < i))) L
    | _, _ => ordW a b L fun d e => Q (.bl (PySem.W.dataLt e d)) L
  | .GtE => match a, b with
    | .int i, .int j => Q (.bl (decide (j ≤ i))) L
    | _, _ => ordW a b L fun d e => Q (.bl (!PySem.W.dataLt d e)) L
  | .In => itemsW b L fun l => ∃ d ds, Vw L a d ∧ Vws L l ds ∧ SeqAt.shaped d = true ∧ SeqAt.shaped (.list ds) = true ∧ Q (.bl (ds.any fun z => PyData.eqv z d)) L
  | .NotIn => itemsW b L fun l => ∃ d ds, Vw L a d ∧ Vws L l ds ∧ SeqAt.shaped d = true ∧ SeqAt.shaped (.list ds) = true ∧ Q (.bl (!ds.any fun z => PyData.eqv z d)) L
def ixW (a i : D) (L : Led) (Q : DK) : Prop :=
  match a, i with
  | .tup l, .int k => ∃ d, atI l k = some d ∧ Q d L
  | a, .int k => lstW a L fun l => ∃ d, atI l k = some d ∧ Q d L
  | _, _ => False
def slW (a : D) (lo hi : Option Int) (L : Led) (Q : DK) : Prop :=
  match a with
  | .tup l => Q (.tup (cutD l lo hi)) L
  | a => lstW a L fun l => newW L (cutD l lo hi) Q
/-- truth -/
def truW (d : D) (L : Led) (Q : Bool → Led → Prop) : Prop :=
  match d with
  | .bl b => Q b L
  | .int i => Q (i != 0) L
  | .non => Q false L
  | .tup l => Q (!l.isEmpty) L
  | a => lstW a L fun l => Q (!l.isEmpty) L
def isBl : D → Option Bool
  | .bl b => some b
  | _ => none
def blsOf : List D → Option (List Bool)
  | [] => some []
  | .bl b :: r => (blsOf r).map (b :: ·)
  | _ :: _ => none
/-- sorted: the items by keys that are data -/
def sortW (l : List D) (L : Led) (Q : DK) : Prop := ∃ (γ : Type) (cs : List γ) (f : γ → D) (g : γ → PyData), l = cs.map f ∧ Vws L l (cs.map g) ∧ PySem.W.AllAlike (cs.map g) ∧ PySem.W.Sortable (cs.map g) ∧ (∀ c ∈ cs, SeqAt.shaped (g c) = true) ∧
  newW L ((cs.mergeSort (PySem.W.dataLe false g)).map f) Q
def isA : Bi → D → Option Bool
  | .isInt, .int _ => some true
  | .isInt, .bl _ => some true
  | .isInt, .str _ => some false
  | .isInt, .non => some false
  | .isInt, .tup _ => some false
  | .isBool, .int _ => some false
  | .isBool, .bl _ => some true
  | .isBool, .str _ => some false
  | .isBool, .non => some false
  | .isBool, .tup _ => some false
  | .isTuple, .int _ => some false
  | .isTuple, .bl _ => some false
  | .isTuple, .str _ => some false
  | .isTuple, .non => some false
  | .isTuple, .tup _ => some true
  | _, _ => none
def biW (f : Bi) (ds : List D) (L : Led) (Q : DK) : Prop :=
  match f, ds with
  | .len, [.tup l] => Q (.int l.length) L
  | .len, [.str x] => x.length ≤ line ∧ Q (.int x.length) L
  | .len, [d] => lstW d L fun l => Q (.int l.length) L
  | .int, [.int i] => Q (.int i) L
  | .int, [.bl b] => Q (.int (if b then 1 else 0)) L
  | .max2, [.int i, .int j] => Q (.int (if j > i then j else i)) L
  | .min2, [.int i, .int j] => Q (.int (if j < i then j else i)) L
  | .all, [d] => lstW d L fun l => ∃ bs, blsOf l = some bs ∧ Q (.bl (bs.all id)) L
  | .tuple, [.tup l] => Q (.tup l) L
  | .tuple, [d] => lstW d L fun l => Q (.tup l) L
  | .list, [.tup l] => newW L l Q
  | .list, [d] => lstW d L fun l => newW L l Q
  | .sorted, [d] => lstW d L fun l => sortW l L Q
  | .isInt, [d] => ∃ b, isA .isInt d = some b ∧ Q (.bl b) L
  | .isBool, [d] => ∃ b, isA .isBool d = some b ∧ Q (.bl b) L
  | .isTuple, [d] => ∃ b, isA .isTuple d = some b ∧ Q (.bl b) L
  | _, _ => False
def meW (m : Me) (o : D) (ds : List D) (L : Led) (Q : DK) : Prop :=
  match m, o, ds with
  | .append, .ref a, [d] => ∃ l, L a = some (.lst l) ∧ l.length < line ∧ Q .non (up L a (.lst (l ++ [d])))
  | _, _, _ => False
/-- the receiver's kind -/
def meT (m : Me) (o : D) (L : Led) : Prop :=
  match m, o with
  | .append, .ref a => ∃ l, L a = some (.lst l)
  | _, _ => False
def setIW (o i e : D) (L : Led) (Q : Led → Prop) : Prop :=
  match o, i with
  | .ref a, .int k => ∃ l, L a = some (.lst l) ∧ (0 ≤ k ∧ k < l.length) ∧ Q (up L a (.lst (l.set k.toNat e)))
  | _, _ => False

/-- two ways -/
def IF (k : Bool) (A B : Prop) : Prop := (k = true → A) ∧ (k = false → B)
@[simp] theorem IF_true {A B : Prop} : IF true A B = A := by simp [IF]
@[simp] theorem IF_false {A B : Prop} : IF false A B = B := by simp [IF]

/-! ### targets -/
mutual
def WT : T → D → Rho → (Rho → Prop) → Prop
  | .n i, d, r, Q => Q (r.set i (some d))
  | .tu ts, d, r, Q => match d with
    | .tup l => l.length = ts.length ∧ WTs ts l r Q
    | _ => False
def WTs : List T → List D → Rho → (Rho → Prop) → Prop
  | [], ds, r, Q => match ds with
    | [] => Q r
    | _ => False
  | t :: ts, ds, r, Q => match ds with
    | d :: l => WT t d r fun r' => WTs ts l r' Q
    | [] => False
end

/-! ### other views of the same state: names and things forgotten, things written no more -/
mutual
/-- what was p's ref may be told as the thing o -/
inductive Wk (p : Addr) (o : O) : D → D → Prop
  | same (d : D) : Wk p o d d
  | here : Wk p o (.ref p) (.fz o)
  | tup {l m : List D} : Wks p o l m → Wk p o (.tup l) (.tup m)
  | fz {a b : O} : WkO p o a b → Wk p o (.fz a) (.fz b)
inductive Wks (p : Addr) (o : O) : List D → List D → Prop
  | nil : Wks p o [] []
  | cons {d e : D} {l m : List D} : Wk p o d e → Wks p o l m → Wks p o (d :: l) (e :: m)
inductive WkF (p : Addr) (o : O) : List (Str × D) → List (Str × D) → Prop
  | nil : WkF p o [] []
  | cons {f : Str} {d e : D} {l m : List (Str × D)} : Wk p o d e → WkF p o l m → WkF p o ((f, d) :: l) ((f, e) :: m)
inductive WkP (p : Addr) (o : O) : List (D × D) → List (D × D) → Prop
  | nil : WkP p o [] []
  | cons {f g d e : D} {l m : List (D × D)} : Wk p o f g → Wk p o d e → WkP p o l m → WkP p o ((f, d) :: l) ((g, e) :: m)
inductive WkO (p : Addr) (o : O) : O → O → Prop
  | same (u : O) : WkO p o u u
  | lst {l m : List D} : Wks p o l m → WkO p o (.lst l) (.lst m)
  | dct {l m : List (D × D)} : WkP p o l m → WkO p o (.dct l) (.dct m)
  | ins {c : Str} {l m : List (Str × D)} : WkF p o l m → WkO p o (.ins c l) (.ins c m)
  | sli {c : Str} {l m : List (Str × D)} : WkF p o l m → WkO p o (.sli c l) (.sli c m)
end
inductive Vg : Rho → Led → Rho → Led → Prop
  | refl (r : Rho) (L : Led) : Vg r L r L
  | sub {r : Rho} {L L' : Led} : Sub L' L → Vg r L r L'
  | nam {r r' : Rho} {L : Led} : r'.length = r.length → (∀ (k : Nat) d, r'[k]? = some (some d) → r[k]? = some (some d)) → Vg r L r' L
  | frz {r r' : Rho} {L L' : Led} (p : Addr) (o : O) : L p = some o → L' p = none → r'.length = r.length → (∀ (k : Nat) e, r'[k]? = some (some e) → ∃ d, r[k]? = some (some d) ∧ Wk p o d e) →
      (∀ a u, L' a = some u → ∃ w, L a = some w ∧ WkO p o w u) → Vg r L r' L'
  | trans {r r1 r2 : Rho} {L L1 L2 : Led} : Vg r L r1 L1 → Vg r1 L1 r2 L2 → Vg r L r2 L2

structure En where
  nx : Rho → Led → Prop
  rt : D → Led → Prop
  bk : Rho → Led → Prop := fun _ _ => False
  ct : Rho → Led → Prop := fun _ _ => False

/-- a for over the items xs; bw: what its body asks -/
def ForW (t : T) (bw : Rho → Led → En → Prop) (N : En) (xs : List D) (stay : Led → Prop) (r : Rho) (L : Led) : Prop :=
  ∃ Iv : Nat → Rho → Led → Prop, Iv 0 r L ∧ ∀ i r' L', i ≤ xs.length → Iv i r' L' → stay L' ∧
      (∀ y, xs[i]? = some y → WT t y r' fun r2 => bw r2 L' { nx := fun r3 L3 => ∃ r4 L4, Vg r3 L3 r4 L4 ∧ Iv (i + 1) r4 L4, ct := fun r3 L3 => ∃ r4 L4, Vg r3 L3 r4 L4 ∧ Iv (i + 1) r4 L4, bk := N.nx, rt := N.rt }) ∧
      (i = xs.length → N.nx r' L')
def WhlW (tw : Rho → Led → (Bool → Led → Prop) → Prop) (bw : Rho → Led → En → Prop) (N : En) (r : Rho) (L : Led) : Prop :=
  ∃ Iv : Nat → Rho → Led → Prop, (∃ m, Iv m r L) ∧ ∀ m r' L', Iv m r' L' →
      tw r' L' (fun k L1 => IF k (bw r' L1 { nx := fun r3 L3 => ∃ m' r4 L4, m' < m ∧ Vg r3 L3 r4 L4 ∧ Iv m' r4 L4, ct := fun r3 L3 => ∃ m' r4 L4, m' < m ∧ Vg r3 L3 r4 L4 ∧ Iv m' r4 L4, bk := N.nx, rt := N.rt }) (N.nx r' L1))
/-- a comprehension over the items xs; tw: what its tests ask, ew: its element -/
def LcW (t : T) (tw : Rho → Led → (Bool → Led → Prop) → Prop) (ew : Rho → Led → DK → Prop) (Q : DK) (xs : List D) (stay : Led → Prop) (r : Rho) (L : Led) : Prop :=
  xs.length ≤ line ∧ ∃ Iv : Nat → List D → Led → Prop, Iv 0 [] L ∧ ∀ i acc L', i ≤ xs.length → Iv i acc L' → stay L' ∧
      (∀ y, xs[i]? = some y → WT t y r fun r2 => tw r2 L' (fun k L2 => IF k (ew r2 L2 (fun d L3 => ∃ d' L4, Vg [some d] L3 [some d'] L4 ∧ Iv (i + 1) (acc ++ [d']) L4)) (∃ L4, Sub L4 L2 ∧ Iv (i + 1) acc L4))) ∧
      (i = xs.length → newW L' acc Q)

mutual
def W : E → Rho → Led → DK → Ex → Prop
  | .v i, r, L, Q, _ => match r[i]? with
    | some (some d) => Q d L
    | _ => False
  | .c d, _, L, Q, _ => Q d L
  | .g _ d, _, L, Q, _ => Q d L
  | .neg a, r, L, Q, x => W a r L (fun d L1 => match d with
    | .int i => Q (.int (-i)) L1
    | _ => False) x
  | .bin o a b, r, L, Q, x => W a r L (fun d L1 => W b r L1 (fun e L2 => binW o d e L2 Q) x) x
  | .cmp o a b, r, L, Q, x => W a r L (fun d L1 => W b r L1 (fun e L2 => cmpW o d e L2 Q) x) x
  | .chain o p a b c, r, L, Q, x => W a r L (fun d L1 => W b r L1 (fun e L2 => cmpW o d e L2 fun z L3 => ∃ k, z = .bl k ∧ IF k (W c r L3 (fun f L4 => cmpW p e f L4 Q) x) (Q (.bl false) L3)) x) x
  | .and a b, r, L, Q, x => W a r L (fun d L1 => ∃ k, d = .bl k ∧ IF k (W b r L1 Q x) (Q (.bl false) L1)) x
  | .or a b, r, L, Q, x => W a r L (fun d L1 => ∃ k, d = .bl k ∧ IF k (Q (.bl true) L1) (W b r L1 Q x)) x
  | .not a, r, L, Q, x => W a r L (fun d L1 => ∃ k, d = .bl k ∧ Q (.bl (!k)) L1) x
  | .ite t a b, r, L, Q, x => WB t r L (fun k L1 => IF k (W a r L1 Q x) (W b r L1 Q x)) x
  | .tup es, r, L, Q, x => WA es r L (fun ds L1 => ds.length ≤ line ∧ Q (.tup ds) L1) x
  | .lst es, r, L, Q, x => WA es r L (fun ds L1 => newW L1 ds Q) x
  | .ix a i, r, L, Q, x => W a r L (fun d L1 => W i r L1 (fun e L2 => ixW d e L2 Q) x) x
  | .sl a lo hi, r, L, Q, x => W a r L (fun d L1 => WO lo r L1 (fun l L2 => WO hi r L2 (fun h L3 => slW d l h L3 Q) x) x) x
  | .call _ sp es, r, L, Q, x => WA es r L (fun ds L1 => sp ds L1 Q x) x
  | .bi f es, r, L, Q, x => WA es r L (fun ds L1 => biW f ds L1 Q) x
  | .me m o es, r, L, Q, x => W o r L (fun d L1 => meT m d L1 ∧ WA es r L1 (fun ds L2 => meW m d ds L2 Q) x) x
  | .lc e t it ifs own, r, L, Q, x => WI it r L (fun xs stay L1 => LcW t (fun r2 L2 Qb => WBs ifs r2 L2 Qb (fun _ _ _ => False)) (fun r2 L2 Qd => W e r2 L2 Qd (fun _ _ _ => False)) Q xs stay (own.foldr (fun p q => q.set p.2 none) r) L1) x
def WO : Option E → Rho → Led → (Option Int → Led → Prop) → Ex → Prop
  | none, _, L, Q, _ => Q none L
  | some e, r, L, Q, x => W e r L (fun d L1 => match d with
    | .int i => Q (some i) L1
    | _ => False) x
def WA : List E → Rho → Led → (List D → Led → Prop) → Ex → Prop
  | [], _, L, Q, _ => Q [] L
  | e :: es, r, L, Q, x => W e r L (fun d L1 => WA es r L1 (fun ds L2 => Q (d :: ds) L2) x) x
def WB : B → Rho → Led → (Bool → Led → Prop) → Ex → Prop
  | .and a b, r, L, Q, x => WB a r L (fun k L1 => IF k (WB b r L1 Q x) (Q false L1)) x
  | .or a b, r, L, Q, x => WB a r L (fun k L1 => IF k (Q true L1) (WB b r L1 Q x)) x
  | .not a, r, L, Q, x => WB a r L (fun k L1 => Q (!k) L1) x
  | .e a, r, L, Q, x => W a r L (fun d L1 => truW d L1 Q) x
  | .cmp o a b, r, L, Q, x => W a r L (fun d L1 => W b r L1 (fun e L2 => cmpW o d e L2 fun z L3 => ∃ k, z = .bl k ∧ Q k L3) x) x
  | .chain o p a b c, r, L, Q, x => W a r L (fun d L1 => W b r L1 (fun e L2 => cmpW o d e L2 fun z L3 => ∃ k, z = .bl k ∧ IF k (W c r L3 (fun f L4 => cmpW p e f L4 fun z L5 => ∃ k, z = .bl k ∧ Q k L5) x) (Q false L3)) x) x
def WBs : List B → Rho → Led → (Bool → Led → Prop) → Ex → Prop
  | [], _, L, Q, _ => Q true L
  | b :: bs, r, L, Q, x => WB b r L (fun k L1 => IF k (WBs bs r L1 Q x) (Q false L1)) x
def WI : I → Rho → Led → (List D → (Led → Prop) → Led → Prop) → Ex → Prop
  | .seq a, r, L, Q, x => W a r L (fun d L1 => match d with
    | .tup l => Q l (fun _ => True) L1
    | .lsc l => Q l (fun _ => True) L1
    | .fz (.lst l) => Q l (fun _ => True) L1
    | .ref p => ∃ l, L1 p = some (.lst l) ∧ Q l (fun L' => L' p = some (.lst l)) L1
    | _ => False) x
  | .r1 a, r, L, Q, x => W a r L (fun d L1 => match d with
    | .int j => rngOk j ∧ Q ((List.range j.toNat).map fun (k : Nat) => D.int (k : Int)) (fun _ => True) L1
    | _ => False) x
  | .r2 a b, r, L, Q, x => W a r L (fun d L1 => W b r L1 (fun e L2 => match d, e with
    | .int i, .int j => (rngOk i ∧ rngOk j) ∧ Q ((List.range (j - i).toNat).map fun (k : Nat) => D.int (i + (k : Int))) (fun _ => True) L2
    | _, _ => False) x) x
end

/-! ### statements -/
def setsAll : List Nat → List D → Rho → Option Rho
  | [], [], r => some r
  | i :: is, d :: ds, r => setsAll is ds (r.set i (some d))
  | _, _, _ => none

mutual
def WS : S → Rho → Led → En → (Rho → Ex) → Prop
  | .asg t e, r, L, N, x => W e r L (fun d L1 => WT t d r fun r' => N.nx r' L1) (x r)
  | .asgLc i e, r, L, N, x => W e r L (fun d L1 => N.nx (r.set i (some d)) L1) (x r)
  | .par is es, r, L, N, x => WA es r L (fun ds L1 => match setsAll is ds r with
    | some r' => N.nx r' L1
    | none => False) (x r)
  | .setI o i e, r, L, N, x => W e r L (fun d L1 => W o r L1 (fun a L2 => W i r L2 (fun k L3 => setIW a k d L3 fun L4 => N.nx r L4) (x r)) (x r)) (x r)
  | .ex e, r, L, N, x => W e r L (fun _ L1 => N.nx r L1) (x r)
  | .ret e, r, L, N, x => W e r L (fun d L1 => N.rt d L1) (x r)
  | .retN, _, L, N, _ => N.rt .non L
  | .pass, r, L, N, _ => N.nx r L
  | .brk, r, L, N, _ => N.bk r L
  | .cont, r, L, N, _ => N.ct r L
  | .ife t a b, r, L, N, x => WB t r L (fun k L1 => IF k (WSs a r L1 N x) (WSs b r L1 N x)) (x r)
  | .for_ t it body, r, L, N, x => WI it r L (fun xs stay L1 => ForW t (fun r2 L2 N2 => WSs body r2 L2 N2 x) N xs stay r L1) (x r)
  | .whl t body, r, L, N, x => WhlW (fun r2 L2 Qb => WB t r2 L2 Qb (x r2)) (fun r2 L2 N2 => WSs body r2 L2 N2 x) N r L
  | .nev, _, _, _, _ => False
def WSs : List S → Rho → Led → En → (Rho → Ex) → Prop
  | [], r, L, N, _ => N.nx r L
  | s :: ss, r, L, N, x => ∃ r0 L0, Vg r L r0 L0 ∧ WS s r0 L0 { N with nx := fun r' L' => WSs ss r' L' N x } x
end

/-- one statement after another; what comes behind is a letter -/
theorem stp {s : S} {ss : List S} {r : Rho} {L : Led} {N : En} {x : Rho → Ex} (h : ∀ K : Rho → Led → Prop, (∀ r' L', WSs ss r' L' N x → K r' L') → WS s r L { nx := K, rt := N.rt, bk := N.bk, ct := N.ct } x) : WSs (s :: ss) r L N x := by
  unfold WSs
  exact ⟨r, L, .refl r L, h _ fun _ _ q => q⟩
/-- another view of the state ahead of a statement -/
theorem stpV {s : S} {ss : List S} {r r0 : Rho} {L L0 : Led} {N : En} {x : Rho → Ex} (v : Vg r L r0 L0) (h : WSs (s :: ss) r0 L0 N x) : WSs (s :: ss) r L N x := by
  unfold WSs at h ⊢
  obtain ⟨r1, L1, v1, h⟩ := h
  exact ⟨r1, L1, v.trans v1, h⟩
theorem stpN {r : Rho} {L : Led} {N : En} {x : Rho → Ex} (h : N.nx r L) : WSs [] r L N x := by
  unfold WSs
  exact h
end Lg

set_option Elab.async false
set_option linter.all false
set_option maxRecDepth 100000
/-! ## The rules at values -/
namespace Lg
open PySem L2

/-- an exception's class and fields -/
def RX (G : Gx) (L : Lx) (H : Hp) (c : Str) (fs : List (Str × D)) (cls : Value) (dx : Option Addr) : Prop :=
  ∃ C, G.mg c = some (.ref C) ∧ cls = .ref C ∧ match dx with
    | none => fs = []
    | some d => ∃ vs : List (Str × V), H d = some (.xd vs) ∧ L.u d = none ∧ ∀ f v, fs.lookup f = some v → ∃ u, vs.lookup f = some u ∧ RV G L.F H v u

section
variable {G : Gx} {L L' : Lx} {H H' : Hp}
def KQ (G : Gx) (L : Lx) (H : Hp) (Q : DK) : VK := fun v H' => ∃ d L', Ext L H L' H' ∧ RL G L' H' ∧ RV G L'.F H' d v ∧ Q d L'.u
def KA (G : Gx) (L : Lx) (H : Hp) (Q : List D → Led → Prop) : List V → Hp → Prop := fun vs H' => ∃ ds L', Ext L H L' H' ∧ RL G L' H' ∧ RVs G L'.F H' ds vs ∧ Q ds L'.u
def KB (G : Gx) (L : Lx) (H : Hp) (Q : Bool → Led → Prop) : Bool → Hp → Prop := fun b H' => ∃ L', Ext L H L' H' ∧ RL G L' H' ∧ Q b L'.u
theorem KQ.back {Q : DK} {v : V} {H2 : Hp} (e : Ext L H L' H') (h : KQ G L' H' Q v H2) : KQ G L H Q v H2 := by
  obtain ⟨d, l, e2, r, rv, q⟩ := h
  exact ⟨d, l, e.trans e2, r, rv, q⟩
theorem KQ.here {Q : DK} {v : V} {d : D} (r : RL G L H) (rv : RV G L.F H d v) (q : Q d L.u) : KQ G L H Q v H := ⟨d, L, Ext.refl, r, rv, q⟩
theorem KQ.newO {Q : DK} {u : HO} {o : O} {p : Addr} (r : RL G L H) (hp : H p = none) (hu : ∀ y, u ≠ .own y) (ro : ∀ F', (∀ a, L.F a → F' a) → RO G F' (upd H p u) p o) (q : newO L.u o Q) : KQ G L H Q (.ref p) (upd H p u) := by
  rcases q with q | q
  · exact ⟨.fz o, _, Ext.newF' hp, r.newF hp hu, .fz (.inr rfl) (ro _ fun _ h => .inl h), q⟩
  · exact ⟨.ref p, _, Ext.newL hp, r.newL hp (ro _ fun _ h => h), .ref p, q p (r.free hp)⟩
theorem KQ.newList {Q : DK} {xs : List D} {vs : List V} (r : RL G L H) (rv : RVs G L.F H xs vs) (q : newW L.u xs Q) (p : Addr) (hp : H p = none) : KQ G L H Q (.ref p) (upd H p (.lst vs)) :=
  KQ.newO r hp (fun _ z => nomatch z) (fun F' h => .lst upd_same (rv.keep fun a f => ⟨h a f, ((Keep.new hp) a f).2⟩)) q.2
theorem KQ.newTup {Q : DK} {xs : List D} {vs : List V} (r : RL G L H) (rv : RVs G L.F H xs vs) (q : Q (.tup xs) L.u) (p : Addr) (hp : H p = none) : KQ G L H Q (.ref p) (upd H p (.tup vs)) :=
  ⟨.tup xs, _, Ext.newF' hp, r.newF hp (fun _ z => nomatch z), .tup (.inl ⟨.inr rfl, upd_same⟩) (rv.ext r (Ext.newF' hp)), q⟩
def XQ (G : Gx) (Wx : WX) (σ : St) (L : Lx) (H : Hp) (x : Ex) : Prop := ∀ c fs L' H' cls dx, Ext L H L' H' → RL G L' H' → RX G L' H' c fs cls dx → x c fs L'.u → Wx cls dx σ H'
theorem XQ.fwd {Wx : WX} {σ : St} {x : Ex} (e : Ext L H L' H') (h : XQ G Wx σ L H x) : XQ G Wx σ L' H' x := fun c fs l h2 cls dx e2 => h c fs l h2 cls dx (e.trans e2)
def RE (G : Gx) (F : Addr → Prop) (H : Hp) (r : Rho) (σ : St) : Prop := r.length = σ.length ∧ ∀ (i : Nat) d, r[i]? = some (some d) → ∃ v, σ[i]? = some (some v) ∧ RV G F H d v
theorem RE.keep {F F' : Addr → Prop} {r : Rho} {σ : St} (e : Keep F H F' H') (h : RE G F H r σ) : RE G F' H' r σ := ⟨h.1, fun i d q => let ⟨v, a, b⟩ := h.2 i d q; ⟨v, a, b.keep e⟩⟩
theorem RE.ext {r : Rho} {σ : St} (rl : RL G L H) (e : Ext L H L' H') (h : RE G L.F H r σ) : RE G L'.F H' r σ := h.keep (e.kp rl)
theorem RE.set {F : Addr → Prop} {r : Rho} {σ : St} {i : Nat} {d : D} {v : V} (h : RE G F H r σ) (rv : RV G F H d v) : RE G F H (r.set i (some d)) (σ.set i (some v)) := by
  refine ⟨by simp [h.1], fun j e q => ?_⟩
  by_cases z : i = j
  · subst z
    by_cases hi : i < r.length
    · rw [List.getElem?_set_self hi] at q
      cases q
      exact ⟨v, by rw [List.getElem?_set_self (by rw [← h.1]; exact hi)], rv⟩
    · rw [List.getElem?_eq_none (by simpa using hi)] at q; cases q
  · rw [List.getElem?_set_ne z] at q ⊢
    exact h.2 j e q
theorem RE.one {F : Addr → Prop} {d : D} {v : V} (h : RV G F H d v) : RE G F H [some d] [some v] := ⟨rfl, fun i e q => by
  cases i with
  | zero => simp at q; subst q; exact ⟨v, rfl, h⟩
  | succ i => simp at q⟩
theorem RE.of1 {F : Addr → Prop} {d : D} {v : V} (h : RE G F H [some d] [some v]) : RV G F H d v := by
  obtain ⟨u, e, r⟩ := h.2 0 d rfl
  simp at e; subst e; exact r

/-! ### other views -/
section
variable {F F' : Addr → Prop} {p : Addr} {o : O}
mutual
theorem Wk.rv (e : Keep F H F' H) (hp : F' p) (ro : RO G F' H p o) : ∀ {d d' : D} {v : V}, Wk p o d d' → RV G F H d v → RV G F' H d' v
  | _, _, _, .same d, r => r.keep e
  | _, _, _, .here, .ref _ => .fz hp ro
  | _, _, _, .tup h, .tup t r => .tup (t.keep e) (Wks.rv e hp ro h r)
  | _, _, _, .fz h, .fz f r => .fz (e _ f).1 (WkO.ro e hp ro h r)
theorem Wks.rv (e : Keep F H F' H) (hp : F' p) (ro : RO G F' H p o) : ∀ {d d' : List D} {v : List V}, Wks p o d d' → RVs G F H d v → RVs G F' H d' v
  | _, _, _, .nil, .nil => .nil
  | _, _, _, .cons h t, .cons r s => .cons (Wk.rv e hp ro h r) (Wks.rv e hp ro t s)
theorem WkF.rv (e : Keep F H F' H) (hp : F' p) (ro : RO G F' H p o) : ∀ {d d' : List (Str × D)} {v : List (Str × V)}, WkF p o d d' → RFs G F H d v → RFs G F' H d' v
  | _, _, _, .nil, .nil => .nil
  | _, _, _, .cons h t, .cons r s => .cons (Wk.rv e hp ro h r) (WkF.rv e hp ro t s)
theorem WkP.rv (e : Keep F H F' H) (hp : F' p) (ro : RO G F' H p o) : ∀ {d d' : List (D × D)} {v : List (V × V)}, WkP p o d d' → RPs G F H d v → RPs G F' H d' v
  | _, _, _, .nil, .nil => .nil
  | _, _, _, .cons g h t, .cons q r s => .cons (Wk.rv e hp ro g q) (Wk.rv e hp ro h r) (WkP.rv e hp ro t s)
theorem WkO.ro (e : Keep F H F' H) (hp : F' p) (ro : RO G F' H p o) : ∀ {a : Addr} {u w : O}, WkO p o u w → RO G F H a u → RO G F' H a w
  | _, _, _, .same _, r => r.keep e fun _ q => q
  | _, _, _, .lst h, .lst t r => .lst t (Wks.rv e hp ro h r)
  | _, _, _, .dct h, .dK t r => .dK t (WkP.rv e hp ro h r)
  | _, _, _, .ins h, .ins m t r => .ins m t (WkF.rv e hp ro h r)
  | _, _, _, .sli .nil, .sl0 m t => .sl0 m t
  | _, _, _, .sli h, .sl1 m t f x so r => .sl1 m t (e _ f).1 ((e _ f).2 _ x) so (WkF.rv e hp ro h r)
end
end
theorem Vg.ok {r r' : Rho} {M M' : Led} {σ : St} (v : Vg r M r' M') : ∀ {L : Lx}, L.u = M → RL G L H → RE G L.F H r σ → ∃ L', L'.u = M' ∧ Ext L H L' H ∧ RL G L' H ∧ RE G L'.F H r' σ := by
  induction v with
  | refl r M => exact fun e rl re => ⟨_, e, Ext.refl, rl, re⟩
  | sub s =>
    intro L e rl re
    subst e
    exact ⟨⟨_, L.F⟩, rfl, Ext.refl.forget s, rl.forget s, re⟩
  | nam hl hn => exact fun e rl re => ⟨_, e, Ext.refl, rl, hl.trans re.1, fun i d q => re.2 i d (hn i d q)⟩
  | frz p o hp hp' hl hr hL =>
    intro L e rl re
    subst e
    rename_i r r' M'
    have hF : ∀ a, L.F a → L.F a ∨ a = p := fun _ h => .inl h
    have kp : Keep L.F H (fun a => L.F a ∨ a = p) H := Keep.more hF
    have ro0 := rl.at_ p o hp
    have ro : RO G (fun a => L.F a ∨ a = p) H p o := ro0.keep kp fun _ q => q
    obtain ⟨w, hw, hwo⟩ := ro0.some
    refine ⟨⟨M', fun a => L.F a ∨ a = p⟩, rfl, ⟨fun b u h _ _ => h, fun b h => h, hF, fun b h => ?_, fun b h => ?_⟩, ⟨fun a u h => ?_, fun a h => ?_⟩, hl.trans re.1, fun i e q => ?_⟩
    · cases q : M' b with
      | none => exact absurd q h
      | some u =>
        obtain ⟨w, h1, _⟩ := hL b u q
        exact .inl (by rw [h1]; exact fun z => nomatch z)
    · rcases h with h | h
      · exact .inl h
      · subst h; exact .inr (.inl (by rw [hp]; exact fun z => nomatch z))
    · obtain ⟨w, h1, h2⟩ := hL a u h
      exact h2.ro kp (.inr rfl) ro (rl.at_ a w h1)
    · rcases h with h | h
      · obtain ⟨n, u, q, y⟩ := rl.fz a h
        refine ⟨?_, u, q, y⟩
        show M' a = none
        cases z : M' a with
        | none => rfl
        | some u =>
          obtain ⟨w, h1, _⟩ := hL a u z
          rw [n] at h1; cases h1
      · subst h; exact ⟨hp', w, hw, hwo⟩
    · obtain ⟨d, h1, h2⟩ := hr i e q
      obtain ⟨v, h3, h4⟩ := re.2 i d h1
      exact ⟨v, h3, h2.rv kp (.inr rfl) ro h4⟩
  | trans _ _ ih1 ih2 =>
    intro L e rl re
    obtain ⟨L1, a1, a2, a3, a4⟩ := ih1 e rl re
    obtain ⟨L2, b1, b2, b3, b4⟩ := ih2 a1 a3 a4
    exact ⟨L2, b1, a2.trans b2, b3, b4⟩
theorem Vg.val {d d' : D} {M M' : Led} {v : V} (g : Vg [some d] M [some d'] M') {L : Lx} (e : L.u = M) (rl : RL G L H) (rv : RV G L.F H d v) : ∃ L', L'.u = M' ∧ Ext L H L' H ∧ RL G L' H ∧ RV G L'.F H d' v := by
  obtain ⟨L', h1, h2, h3, h4⟩ := g.ok e rl (RE.one rv)
  exact ⟨L', h1, h2, h3, h4.of1⟩

/-! ### reading -/
theorem TupAt.sq {X : Cx} {a : Addr} {xs : List V} (hK : G.K = X.K) (h : TupAt G L.F H a xs) : SqT X.K H a xs := by
  rw [← hK]
  rcases h with ⟨_, h⟩ | h
  · exact .inl (.inl h)
  · exact .inr h
theorem LscAt.sq {X : Cx} {a : Addr} {xs : List V} (hK : G.K = X.K) (h : LscAt G L.F H a xs) : SqL X.K H a xs := by
  rw [← hK]
  rcases h with ⟨_, o, h⟩ | h
  · exact .inl (.inr ⟨o, h⟩)
  · exact .inr h
theorem RVs.at {xs : List D} {vs : List V} {i : Int} {d : D} (r : RVs G L.F H xs vs) (h : atI xs i = some d) : ∃ v, atI vs i = some v ∧ RV G L.F H d v := by
  unfold atI at h ⊢
  rw [← r.length]
  cases e : ixN xs.length i with
  | none => rw [e] at h; cases h
  | some j =>
    rw [e] at h
    exact r.get h
theorem RVs.cut {xs : List D} {vs : List V} {lo hi : Option Int} (r : RVs G L.F H xs vs) : RVs G L.F H (cutD xs lo hi) (cutV vs lo hi) := by
  unfold cutD cutV
  rw [← r.length]
  exact (r.drop _).take _
theorem line_eq : line = sizeLine := by rw [sizeLine_eq]; rfl
theorem Lst.at {a : Addr} {xs : List D} (r : RL G L H) (h : L.u a = some (.lst xs)) : ∃ vs, H a = some (.lst vs) ∧ RVs G L.F H xs vs := by
  cases r.at_ a _ h with
  | lst h r => exact ⟨_, h, r⟩
/-- a list, read -/
theorem fz_lst {X : Cx} (hK : G.K = X.K) {l : List D} {v : V} (r : RV G L.F H (.fz (.lst l)) v) : ∃ p vs, v = .ref p ∧ SqL X.K H p vs ∧ RVs G L.F H l vs := by
  cases r with
  | fz _ ro =>
    cases ro with
    | lst h r => exact ⟨_, _, rfl, SqL.of h, r⟩
theorem lstM_D (rl : RL G L H) {d : D} {v : V} {Q : List D → Prop} (w : lstM d L.u Q) (r : RV G L.F H d v) : ∃ p vs l, v = .ref p ∧ H p = some (.lst vs) ∧ RVs G L.F H l vs ∧ Q l := by
  unfold lstM at w
  split at w
  · cases r with
    | fz _ ro =>
      cases ro with
      | lst h r => exact ⟨_, _, _, rfl, h, r, w⟩
  · cases r
    obtain ⟨l, hl, w⟩ := w
    obtain ⟨vs, h1, r1⟩ := Lst.at rl hl
    exact ⟨_, _, _, rfl, h1, r1, w⟩
  · exact w.elim
theorem lst_D {X : Cx} (hK : G.K = X.K) (rl : RL G L H) {d : D} {v : V} {Q : List D → Prop} (w : lstW d L.u Q) (r : RV G L.F H d v) : ∃ p vs l, v = .ref p ∧ SqL X.K H p vs ∧ RVs G L.F H l vs ∧ Q l := by
  unfold lstW at w
  split at w
  · cases r with
    | scr h r => exact ⟨_, _, _, rfl, h.sq hK, r, w⟩
  · obtain ⟨p, vs, h1, h2, h3⟩ := fz_lst hK r
    exact ⟨p, vs, _, h1, h2, h3, w⟩
  · cases r
    obtain ⟨l, hl, w⟩ := w
    obtain ⟨vs, h1, r1⟩ := Lst.at rl hl
    exact ⟨_, _, _, rfl, SqL.of h1, r1, w⟩
  · exact w.elim

/-! ### how data look -/
mutual
theorem Vw.dp {X : Cx} (hK : G.K = X.K) (rl : RL G L H) : ∀ {d : D} {p : PyData} {v : V}, Vw L.u d p → RV G L.F H d v → Dp X.K H v p
  | _, _, _, .non, .non => .non
  | _, _, _, .bl b, .bl _ => .bl b
  | _, _, _, .int i, .int _ => .int i
  | _, _, _, .str x, .str _ => .str x
  | _, _, _, .tup h, .tup a r => .tup (a.sq hK) (Vws.dp hK rl h r)
  | _, _, _, .lsc h, .scr a r => .lst (a.sq hK) (Vws.dp hK rl h r)
  | _, _, _, .fz h, .fz f (.lst a r) => .lst (.inl (.inl a)) (Vws.dp hK rl h r)
  | _, _, _, .ref e h, .ref _ => by
    obtain ⟨vs, h1, h2⟩ := Lst.at rl e
    exact .lst (.inl (.inl h1)) (Vws.dp hK rl h h2)
theorem Vws.dp {X : Cx} (hK : G.K = X.K) (rl : RL G L H) : ∀ {l : List D} {ps : List PyData} {vs : List V}, Vws L.u l ps → RVs G L.F H l vs → DpAll X.K H vs ps
  | _, _, _, .nil, .nil => .nil
  | _, _, _, .cons a b, .cons r t => .cons (Vw.dp hK rl a r) (Vws.dp hK rl b t)
end
theorem intsOf_map : ∀ {l : List D} {ns : List Int}, intsOf l = some ns → l = ns.map D.int
  | [], ns, h => by unfold intsOf at h; cases h; rfl
  | d :: l, ns, h => by
    cases d <;> unfold intsOf at h <;> try cases h
    cases e : intsOf l with
    | none => rw [e] at h; cases h
    | some m => rw [e] at h; cases h; rw [intsOf_map e]; rfl
theorem blsOf_map : ∀ {l : List D} {ns : List Bool}, blsOf l = some ns → l = ns.map D.bl
  | [], ns, h => by unfold blsOf at h; cases h; rfl
  | d :: l, ns, h => by
    cases d <;> unfold blsOf at h <;> try cases h
    cases e : blsOf l with
    | none => rw [e] at h; cases h
    | some m => rw [e] at h; cases h; rw [blsOf_map e]; rfl
theorem RVs.bls : ∀ {ns : List Bool} {xs : List V}, RVs G L.F H (ns.map D.bl) xs → xs = ns.map V.bl
  | [], _, h => by cases h; rfl
  | n :: ns, _, h => by
    cases h with
    | cons h t =>
      cases h
      rw [RVs.bls t]; rfl
end

theorem log_small {n : Nat} (h : n < 18446744073709551616) : n.log2 < 9000 := by
  by_cases z : n = 0
  · subst z; decide
  · have := (Nat.log2_lt z (k := 64)).mpr h
    omega
/-! ### operators -/
section
variable {X : Cx} {G : Gx}
/-- an operator's reading at data -/
def rD (G : Gx) (f : D → D → Led → DK → Prop) : R2 := fun x y H Qv => ∃ d e L Q, RL G L H ∧ RV G L.F H d x ∧ RV G L.F H e y ∧ f d e L.u Q ∧ ∀ v H', KQ G L H Q v H' → Qv v H'

theorem op_bin (hK : G.K = X.K) (o : Operator) : OpR X (binaryOp o) (rD G (binW o)) := by
  intro pins s σ H x y v u Qv I rx ry ⟨d, e, L, Q, rl, rd, re, w, k⟩
  unfold binW at w
  split at w
  · cases rd; cases re
    exact op_add pins s σ H _ _ v u Qv I rx ry ⟨_, _, rfl, rfl, k _ _ (KQ.here rl (.int _) w)⟩
  · cases rd; cases re
    exact op_sub pins s σ H _ _ v u Qv I rx ry ⟨_, _, rfl, rfl, k _ _ (KQ.here rl (.int _) w)⟩
  · cases rd; cases re
    exact op_mul pins s σ H _ _ v u Qv I rx ry ⟨_, _, rfl, rfl, w.1, k _ _ (KQ.here rl (.int _) w.2)⟩
  · cases rd; cases re
    exact op_fdivW pins s σ H _ _ v u Qv I rx ry ⟨_, _, rfl, rfl, ⟨w.1.1, log_small (by have h1 := w.1; omega)⟩, k _ _ (KQ.here rl (.int _) w.2)⟩
  · cases rd; cases re
    exact op_mod pins s σ H _ _ v u Qv I rx ry ⟨_, _, rfl, rfl, w.1, k _ _ (KQ.here rl (.int _) w.2)⟩
  · cases rd; cases re
    exact op_pow pins s σ H _ _ v u Qv I rx ry ⟨_, _, rfl, rfl, w.1, k _ _ (KQ.here rl (.int _) w.2)⟩
  · cases rd; cases re
    exact op_shl pins s σ H _ _ v u Qv I rx ry ⟨_, _, rfl, rfl, w.1, k _ _ (KQ.here rl (.int _) w.2)⟩
  · cases rd; cases re
    exact op_add_str pins s σ H _ _ v u Qv I rx ry ⟨_, _, rfl, rfl, by rw [← line_eq]; exact w.1, k _ _ (KQ.here rl (.str _) w.2)⟩
  · cases rd with
    | tup h1 r1 =>
      cases re with
      | tup h2 r2 =>
        refine op_catA pins s σ H _ _ v u Qv I rx ry ⟨_, _, _, _, rfl, rfl, h1.sq hK, h2.sq hK, by rw [← r1.length, ← r2.length, ← line_eq]; exact w.1, ?_⟩
        rename_i l m xs ys
        refine ⟨fun hx => ?_, fun _ hy => ?_, fun _ _ p hp => k _ _ (KQ.newTup rl (r1.append r2) w.2 p hp)⟩
        · subst hx; cases r1
          exact k _ _ (KQ.here rl (.tup h2 r2) w.2)
        · subst hy; cases r2
          exact k _ _ (KQ.here rl (.tup h1 r1) (by simpa using w.2))
  · obtain ⟨p1, vs1, l1, rfl, e1, r1, w⟩ := lstM_D rl w rd
    obtain ⟨p2, vs2, l2, rfl, e2, r2, w⟩ := lstM_D rl w re
    exact op_cat pins s σ H _ _ v u Qv I rx ry ⟨_, _, _, _, rfl, rfl, e1, e2, by rw [← r1.length, ← r2.length, ← List.length_append, ← line_eq]; exact w.1, fun p hp => k _ _ (KQ.newList rl (r1.append r2) w p hp)⟩
  · exact w.elim

theorem eq_sem (hK : G.K = X.K) (hu : X.A.units + 64 < cLine) {pins : List (Addr × Obj)} {s : Shared} {σ : St} {H : Hp} {x y : V} {v u : Value} {d e : D} {L : Lx} {Q : Bool → Prop} {ne : Bool} {Qv : VK} (I : Inv X pins σ H s) (rx : RelV x v) (ry : RelV y u)
    (rl : RL G L H) (rd : RV G L.F H d x) (re : RV G L.F H e y) (w : eqW d e L.u Q) (k : ∀ c, Q c → Qv (.bl (if ne then !c else c)) H) :
    wpAny (model X.prog X.w) X.A (compareOp (if ne then .NotEq else .Eq) v u) (EP X pins σ Qv) X.xe s := by
  have scl : ∀ {a b : V} {c : Bool}, RelV a v → RelV b u → scal a b = true → decide (a = b) = c → Q c → wpAny (model X.prog X.w) X.A (compareOp (if ne then .NotEq else .Eq) v u) (EP X pins σ Qv) X.xe s := by
    intro a b c ra rb hs hc q
    cases ne with
    | false => exact op_eq pins s σ H _ _ v u Qv I ra rb ⟨hs, by rw [hc]; exact k c q⟩
    | true => exact op_ne pins s σ H _ _ v u Qv I ra rb ⟨hs, by rw [hc]; exact k c q⟩
  unfold eqW at w
  split at w
  · cases rd; cases re
    exact scl rx ry rfl (by simp) w
  · cases rd; cases re
    exact scl rx ry rfl (by simp) w
  · obtain ⟨p, q, v1, v2, s1, s2, w⟩ := w
    cases ne with
    | false => exact op_eqD hu pins s σ H _ _ v u Qv I rx ry ⟨p, q, v1.dp hK rl rd, v2.dp hK rl re, s1, s2, k _ w⟩
    | true => exact op_neD hu pins s σ H _ _ v u Qv I rx ry ⟨p, q, v1.dp hK rl rd, v2.dp hK rl re, s1, s2, k _ w⟩
theorem isNon_of {L : Lx} {H : Hp} {d : D} {v : V} (h : RV G L.F H d v) : decide (v = .non) = isNonD d := by
  cases h <;> simp [isNonD]
theorem room65 {k : Nat} {A : Around} (r : Room k A) : A.units + 65 < cLine := by have := r.un; omega
theorem op_cmpD (hK : G.K = X.K) (hu' : X.A.units + 65 < cLine) (o : CmpOp) : OpR X (compareOp o) (rD G (cmpW o)) := by
  intro pins s σ H x y v u Qv I rx ry ⟨d, e, L, Q, rl, rd, re, w, k⟩
  have kb : ∀ c, Q (.bl c) L.u → Qv (.bl c) H := fun c q => k _ _ (KQ.here rl (.bl _) q)
  have hu : X.A.units + 64 < cLine := by omega
  unfold cmpW at w
  split at w
  · exact eq_sem (ne := false) hK hu I rx ry rl rd re w kb
  · exact eq_sem (ne := true) hK hu I rx ry rl rd re w fun c q => kb _ q
  · split at w
    · cases re
      exact op_isN pins s σ H _ _ v u Qv I rx ry ⟨rfl, by rw [isNon_of rd]; exact kb _ w⟩
    · exact w.elim
  · split at w
    · cases re
      exact op_notN pins s σ H _ _ v u Qv I rx ry ⟨rfl, by rw [isNon_of rd]; exact kb _ w⟩
    · exact w.elim
  · split at w
    · cases rd; cases re
      exact op_lt pins s σ H _ _ v u Qv I rx ry ⟨_, _, rfl, rfl, kb _ w⟩
    · obtain ⟨p, q, v1, v2, al, ne, sh, w⟩ := w
      obtain ⟨as, r1⟩ := Dp.reads I p _ v (v1.dp hK rl rd) rx
      obtain ⟨bs, r2⟩ := Dp.reads I q _ u (v2.dp hK rl re) ry
      exact PySem.W.lt_data r1 r2 al ne (SeqAt.room_of_shaped sh hu) ⟨.bl _, H, I, rfl, kb _ w⟩
  · split at w
    · cases rd; cases re
      exact op_le pins s σ H _ _ v u Qv I rx ry ⟨_, _, rfl, rfl, kb _ w⟩
    · obtain ⟨p, q, v1, v2, al, ne, sh, w⟩ := w
      obtain ⟨as, r1⟩ := Dp.reads I p _ v (v1.dp hK rl rd) rx
      obtain ⟨bs, r2⟩ := Dp.reads I q _ u (v2.dp hK rl re) ry
      exact PySem.W.le_data r1 r2 al ne (SeqAt.room_of_shaped sh hu) ⟨.bl _, H, I, rfl, kb _ w⟩
  · split at w
    · cases rd; cases re
      exact op_gt pins s σ H _ _ v u Qv I rx ry ⟨_, _, rfl, rfl, kb _ w⟩
    · obtain ⟨p, q, v1, v2, al, ne, sh, w⟩ := w
      obtain ⟨as, r1⟩ := Dp.reads I p _ v (v1.dp hK rl rd) rx
      obtain ⟨bs, r2⟩ := Dp.reads I q _ u (v2.dp hK rl re) ry
      exact PySem.W.gt_data r1 r2 al ne (SeqAt.room_of_shaped sh hu) ⟨.bl _, H, I, rfl, kb _ w⟩
  · split at w
    · cases rd; cases re
      exact op_ge pins s σ H _ _ v u Qv I rx ry ⟨_, _, rfl, rfl, kb _ w⟩
    · obtain ⟨p, q, v1, v2, al, ne, sh, w⟩ := w
      obtain ⟨as, r1⟩ := Dp.reads I p _ v (v1.dp hK rl rd) rx
      obtain ⟨bs, r2⟩ := Dp.reads I q _ u (v2.dp hK rl re) ry
      exact PySem.W.ge_data r1 r2 al ne (SeqAt.room_of_shaped sh hu) ⟨.bl _, H, I, rfl, kb _ w⟩
  · unfold itemsW at w
    have fin : ∀ {p : PyData} {ds : List PyData}, Dp X.K H x p → SeqAt.shaped p = true → SeqAt.shaped (.list ds) = true → Q (.bl (ds.any fun z => PyData.eqv z p)) L.u → (Dp X.K H y (.list ds) ∨ Dp X.K H y (.tuple ds)) → wpAny (model X.prog X.w) X.A (compareOp .In v u) (EP X pins σ Qv) X.xe s := by
      intro p ds hx sp sq q hy
      obtain ⟨as, r1⟩ := Dp.reads I p _ v hx rx
      rcases hy with hy | hy
      · obtain ⟨bs, r2⟩ := Dp.reads I _ _ u hy ry
        exact SeqAt.in_list_reads r2 r1 (SeqAt.canLay_of_shaped sq) (SeqAt.canLay_of_shaped sp) (by have h1 := SeqAt.depth_of_shaped sp; omega) ⟨.bl _, H, I, rfl, kb _ q⟩
      · obtain ⟨bs, r2⟩ := Dp.reads I _ _ u hy ry
        exact SeqAt.in_tuple_reads r2 r1 (SeqAt.canLay_of_shaped sq) (SeqAt.canLay_of_shaped sp) (by have h1 := SeqAt.depth_of_shaped sp; omega) ⟨.bl _, H, I, rfl, kb _ q⟩
    split at w
    · obtain ⟨p, ds, v1, v2, s1, s2, q⟩ := w
      exact fin (v1.dp hK rl rd) s1 s2 q (.inr ((Vw.tup v2).dp hK rl re))
    · unfold lstW at w
      split at w
      · obtain ⟨p, ds, v1, v2, s1, s2, q⟩ := w
        exact fin (v1.dp hK rl rd) s1 s2 q (.inl ((Vw.lsc v2).dp hK rl re))
      · obtain ⟨p, ds, v1, v2, s1, s2, q⟩ := w
        exact fin (v1.dp hK rl rd) s1 s2 q (.inl ((Vw.fz v2).dp hK rl re))
      · obtain ⟨l, hl, p, ds, v1, v2, s1, s2, q⟩ := w
        exact fin (v1.dp hK rl rd) s1 s2 q (.inl ((Vw.ref hl v2).dp hK rl re))
      · exact w.elim
  · unfold itemsW at w
    have fin : ∀ {p : PyData} {ds : List PyData}, Dp X.K H x p → SeqAt.shaped p = true → SeqAt.shaped (.list ds) = true → Q (.bl (!ds.any fun z => PyData.eqv z p)) L.u → (Dp X.K H y (.list ds) ∨ Dp X.K H y (.tuple ds)) → wpAny (model X.prog X.w) X.A (compareOp .NotIn v u) (EP X pins σ Qv) X.xe s := by
      intro p ds hx sp sq q hy
      obtain ⟨as, r1⟩ := Dp.reads I p _ v hx rx
      rcases hy with hy | hy
      · obtain ⟨bs, r2⟩ := Dp.reads I _ _ u hy ry
        exact SeqAt.notIn_list_reads r2 r1 (SeqAt.canLay_of_shaped sq) (SeqAt.canLay_of_shaped sp) (by have h1 := SeqAt.depth_of_shaped sp; omega) ⟨.bl _, H, I, rfl, kb _ q⟩
      · obtain ⟨bs, r2⟩ := Dp.reads I _ _ u hy ry
        exact SeqAt.notIn_tuple_reads r2 r1 (SeqAt.canLay_of_shaped sq) (SeqAt.canLay_of_shaped sp) (by have h1 := SeqAt.depth_of_shaped sp; omega) ⟨.bl _, H, I, rfl, kb _ q⟩
    split at w
    · obtain ⟨p, ds, v1, v2, s1, s2, q⟩ := w
      exact fin (v1.dp hK rl rd) s1 s2 q (.inr ((Vw.tup v2).dp hK rl re))
    · unfold lstW at w
      split at w
      · obtain ⟨p, ds, v1, v2, s1, s2, q⟩ := w
        exact fin (v1.dp hK rl rd) s1 s2 q (.inl ((Vw.lsc v2).dp hK rl re))
      · obtain ⟨p, ds, v1, v2, s1, s2, q⟩ := w
        exact fin (v1.dp hK rl rd) s1 s2 q (.inl ((Vw.fz v2).dp hK rl re))
      · obtain ⟨l, hl, p, ds, v1, v2, s1, s2, q⟩ := w
        exact fin (v1.dp hK rl rd) s1 s2 q (.inl ((Vw.ref hl v2).dp hK rl re))
      · exact w.elim

/-! ### subscripts, truth -/
theorem ix_D (hK : G.K = X.K) : IxR X (rD G ixW) := by
  intro value slice pins s σ H x y v u Qv I rx ry ⟨d, e, L, Q, rl, rd, re, w, k⟩ hs
  unfold ixW at w
  split at w
  · cases re
    cases rd with
    | tup h1 r1 =>
      obtain ⟨z, ez, q⟩ := w
      obtain ⟨vz, e1, r2⟩ := r1.at ez
      exact ix_tup value slice pins s σ H _ _ v u Qv I rx ry ⟨_, _, _, _, rfl, rfl, h1.sq hK, e1, k _ _ (KQ.here rl r2 q)⟩ hs
  · cases re
    obtain ⟨p, vs, l, rfl, h1, r1, z, ez, q⟩ := lst_D hK rl w rd
    obtain ⟨vz, e1, r2⟩ := r1.at ez
    exact ix_list value slice pins s σ H _ _ v u Qv I rx ry ⟨_, _, _, _, rfl, rfl, h1, e1, k _ _ (KQ.here rl r2 q)⟩ hs
  · exact w.elim
theorem RVs.isEmpty {L : Lx} {H : Hp} {l : List D} {xs : List V} (r : RVs G L.F H l xs) : xs.isEmpty = l.isEmpty := by
  cases r <;> rfl
theorem tru_D (hK : G.K = X.K) {L : Lx} {H : Hp} {d : D} {v : V} {Q : Bool → Led → Prop} (rl : RL G L H) (rd : RV G L.F H d v) (w : truW d L.u Q) : ∃ k, TruV X.K v H k ∧ Q k L.u := by
  unfold truW at w
  split at w
  · cases rd; exact ⟨_, rfl, w⟩
  · cases rd; exact ⟨_, rfl, w⟩
  · cases rd; exact ⟨_, rfl, w⟩
  · cases rd with
    | tup h1 r1 => exact ⟨_, .inr (.inl ⟨_, h1.sq hK, rfl⟩), by rw [r1.isEmpty]; exact w⟩
  · obtain ⟨p, vs, l, rfl, h1, r1, w⟩ := lst_D hK rl w rd
    exact ⟨_, .inl ⟨_, h1, rfl⟩, by rw [r1.isEmpty]; exact w⟩
end
end Lg

set_option Elab.async false
set_option linter.all false
set_option maxRecDepth 100000
namespace Lg
open PySem L2
section
variable {X : Cx} {G : Gx}
/-- a call's reading at data -/
def rC (G : Gx) (f : List D → Led → DK → Prop) : List V → Hp → VK → Prop := fun vs H Qv => ∃ ds L Q, RL G L H ∧ RVs G L.F H ds vs ∧ f ds L.u Q ∧ ∀ v H', KQ G L H Q v H' → Qv v H'

theorem RVs.one {L : Lx} {H : Hp} {d : D} {vs : List V} (h : RVs G L.F H [d] vs) : ∃ v, vs = [v] ∧ RV G L.F H d v := by
  cases h with
  | cons h t => cases t; exact ⟨_, rfl, h⟩
theorem RVs.two {L : Lx} {H : Hp} {d e : D} {vs : List V} (h : RVs G L.F H [d, e] vs) : ∃ v u, vs = [v, u] ∧ RV G L.F H d v ∧ RV G L.F H e u := by
  cases h with
  | cons h t =>
    obtain ⟨u, rfl, r⟩ := t.one
    exact ⟨_, _, rfl, h, r⟩

theorem len_D (hK : G.K = X.K) : CallR X (.builtin "len") (rC G (biW .len)) := by
  intro pins s σ H vs us Qv I rv ⟨ds, L, Q, rl, rd, w, k⟩
  have ki : ∀ (n : Nat), Q (.int n) L.u → Qv (.int n) H := fun n q => k _ _ (KQ.here rl (.int _) q)
  unfold biW at w
  split at w <;> (try (rename_i e; cases e)) <;> (try exact w.elim)
  · obtain ⟨v, rfl, r1⟩ := rd.one
    cases r1 with
    | tup h1 r2 => exact call_len_seq pins s σ H _ us Qv I rv ⟨_, _, rfl, .inr (h1.sq hK), by rw [← r2.length]; exact ki _ w⟩
  · obtain ⟨v, rfl, r1⟩ := rd.one
    cases r1
    exact call_len_str pins s σ H _ us Qv I rv ⟨_, rfl, by rw [← line_eq]; exact w.1, ki _ w.2⟩
  · obtain ⟨v, rfl, r1⟩ := rd.one
    obtain ⟨p, zs, l, rfl, h, r2, w⟩ := lst_D hK rl w r1
    exact call_len_seq pins s σ H _ us Qv I rv ⟨_, _, rfl, .inl h, by rw [← r2.length]; exact ki _ w⟩
theorem int_D : CallR X (.type "int") (rC G (biW .int)) := by
  intro pins s σ H vs us Qv I rv ⟨ds, L, Q, rl, rd, w, k⟩
  unfold biW at w
  split at w <;> (try (rename_i e; cases e)) <;> (try exact w.elim)
  · obtain ⟨v, rfl, r1⟩ := rd.one
    cases r1
    exact call_int1 pins s σ H _ us Qv I rv (.inl ⟨_, rfl, k _ _ (KQ.here rl (.int _) w)⟩)
  · obtain ⟨v, rfl, r1⟩ := rd.one
    cases r1
    exact call_int1 pins s σ H _ us Qv I rv (.inr ⟨_, rfl, k _ _ (KQ.here rl (.int _) w)⟩)
theorem max_D (hc : X.calm = true) : CallR X (.builtin "max") (rC G (biW .max2)) := by
  intro pins s σ H vs us Qv I rv ⟨ds, L, Q, rl, rd, w, k⟩
  unfold biW at w
  split at w <;> (try (rename_i e; cases e)) <;> (try exact w.elim)
  obtain ⟨v, u, rfl, r1, r2⟩ := rd.two
  cases r1; cases r2
  exact call_max2 hc pins s σ H _ us Qv I rv ⟨_, _, rfl, k _ _ (KQ.here rl (.int _) w)⟩
theorem min_D (hc : X.calm = true) : CallR X (.builtin "min") (rC G (biW .min2)) := by
  intro pins s σ H vs us Qv I rv ⟨ds, L, Q, rl, rd, w, k⟩
  unfold biW at w
  split at w <;> (try (rename_i e; cases e)) <;> (try exact w.elim)
  obtain ⟨v, u, rfl, r1, r2⟩ := rd.two
  cases r1; cases r2
  exact call_min2 hc pins s σ H _ us Qv I rv ⟨_, _, rfl, k _ _ (KQ.here rl (.int _) w)⟩
theorem all_D (hK : G.K = X.K) (hc : X.calm = true) : CallR X (.builtin "all") (rC G (biW .all)) := by
  intro pins s σ H vs us Qv I rv ⟨ds, L, Q, rl, rd, w, k⟩
  unfold biW at w
  split at w <;> (try (rename_i e; cases e)) <;> (try exact w.elim)
  obtain ⟨v, rfl, r1⟩ := rd.one
  obtain ⟨p, zs, l, rfl, h1, r2, bs, eb, w⟩ := lst_D hK rl w r1
  have eb := blsOf_map eb
  subst eb
  have e2 := RVs.bls r2
  subst e2
  exact cr_all hc pins s σ H _ us Qv I rv ⟨_, _, rfl, h1, k _ _ (KQ.here rl (.bl _) w)⟩
theorem tuple_D (hK : G.K = X.K) : CallR X (.type "tuple") (rC G (biW .tuple)) := by
  intro pins s σ H vs us Qv I rv ⟨ds, L, Q, rl, rd, w, k⟩
  unfold biW at w
  split at w <;> (try (rename_i e; cases e)) <;> (try exact w.elim)
  · obtain ⟨v, rfl, r1⟩ := rd.one
    cases r1 with
    | tup h1 r2 => exact call_tuple_of pins s σ H _ us Qv I rv ⟨_, _, rfl, .inr ⟨h1.sq hK, k _ _ (KQ.here rl (.tup h1 r2) w)⟩⟩
  · obtain ⟨v, rfl, r1⟩ := rd.one
    obtain ⟨p, zs, l, rfl, h1, r2, w⟩ := lst_D hK rl w r1
    exact call_tuple_of pins s σ H _ us Qv I rv ⟨_, _, rfl, .inl ⟨h1, fun p hp => k _ _ (KQ.newTup rl r2 w p hp)⟩⟩
theorem list_D (hK : G.K = X.K) : CallR X (.type "list") (rC G (biW .list)) := by
  intro pins s σ H vs us Qv I rv ⟨ds, L, Q, rl, rd, w, k⟩
  unfold biW at w
  split at w <;> (try (rename_i e; cases e)) <;> (try exact w.elim)
  · obtain ⟨v, rfl, r1⟩ := rd.one
    cases r1 with
    | tup h1 r2 => exact call_list_of pins s σ H _ us Qv I rv ⟨_, _, rfl, .inr (h1.sq hK), fun p hp => k _ _ (KQ.newList rl r2 w p hp)⟩
  · obtain ⟨v, rfl, r1⟩ := rd.one
    obtain ⟨p, zs, l, rfl, h1, r2, w⟩ := lst_D hK rl w r1
    exact call_list_of pins s σ H _ us Qv I rv ⟨_, _, rfl, .inl h1, fun p hp => k _ _ (KQ.newList rl r2 w p hp)⟩
theorem each_of {L : Lx} {H : Hp} {pins : List (Addr × Obj)} {s : Shared} {σ : St} (hK : G.K = X.K) (I : Inv X pins σ H s) (rl : RL G L H) {γ : Type} {f : γ → D} {g : γ → PyData} : ∀ {cs : List γ} {vs : List V} {us : List Value}, Vws L.u (cs.map f) (cs.map g) → RVs G L.F H (cs.map f) vs → Vals vs us →
    PySem.W.EachIs (fun v c => ∃ x, RelV x v ∧ RV G L.F H (f c) x) us cs ∧ PySem.W.EachIs (fun v c => ∃ as, Reads s.heap v (g c) as) us cs
  | [], _, _, _, rv, ru => by cases rv; cases ru; exact ⟨.nil, .nil⟩
  | c :: cs, _, _, vw, rv, ru => by
    cases vw with
    | cons v1 v2 =>
      cases rv with
      | cons r1 r2 =>
        cases ru with
        | cons u1 u2 =>
          obtain ⟨h1, h2⟩ := each_of hK I rl v2 r2 u2
          exact ⟨.cons ⟨_, u1, r1⟩ h1, .cons (Dp.reads I _ _ _ (v1.dp hK rl r1) u1) h2⟩
theorem each_back {L : Lx} {H : Hp} {γ : Type} {f : γ → D} : ∀ {cs : List γ} {us : List Value}, PySem.W.EachIs (fun v c => ∃ x, RelV x v ∧ RV G L.F H (f c) x) us cs → ∃ vs, Vals vs us ∧ RVs G L.F H (cs.map f) vs
  | _, _, .nil => ⟨[], .nil, .nil⟩
  | _, _, .cons h t => by
    obtain ⟨x, r1, r2⟩ := h
    obtain ⟨vs, h1, h2⟩ := each_back t
    exact ⟨x :: vs, .cons r1 h1, .cons r2 h2⟩
theorem sorted_D (hK : G.K = X.K) {kk : Nat} (hr : Room kk X.A) : CallR X (.builtin "sorted") (rC G (biW .sorted)) := by
  intro pins s σ H vs us Qv I rv ⟨ds, L, Q, rl, rd, w, k⟩
  unfold biW at w
  split at w <;> (try (rename_i e; cases e)) <;> (try exact w.elim)
  obtain ⟨v, rfl, r1⟩ := rd.one
  obtain ⟨p, zs, l, rfl, h1, r2, γ, cs, f, g, rfl, vw, al, so, sh, w⟩ := lst_D hK rl w r1
  obtain ⟨its, ri, pl, hz⟩ := I.list h1
  rw [Vals.ref1 rv]
  obtain ⟨e1, e2⟩ := each_of hK I rl vw r2 ri
  have hn : cs.length ≤ sizeLine := by
    have := w.1
    rw [List.length_map, List.length_mergeSort, line_eq] at this
    exact this
  refine PySem.W.sorted_data pl.isList e1 e2 al so hn (fun c hc => by have h3 := SeqAt.depth_of_shaped (sh c hc); have h4 := hr.un; omega) fun out ho eo => ?_
  obtain ⟨ep, he'⟩ := PyProof.Rows.sortedAll_at s.heap its out.toArray
  obtain ⟨ys, y1, y2⟩ := each_back eo
  have hlen : ys.length ≤ sizeLine := by rw [← y2.length, List.length_map, List.length_mergeSort]; exact hn
  exact ⟨.ref _, upd H (s.heap.objs.size + 1) (.lst ys), I.laid (t' := s.toks) (fun _ _ => PyProof.Rows.sortedAll_old) (Nat.le_succ _) ⟨hlen, out, ep, y1, he'⟩, rfl, k _ _ (KQ.newList rl y2 w _ (I.hok.fresh (Nat.le_succ _)))⟩

/-- the type of data -/
def tyD : D → Option String
  | .non => some "NoneType" | .bl _ => some "bool" | .int _ => some "int" | .str _ => some "str" | .tup _ => some "tuple"
  | _ => none
theorem tyD_ok (hK : G.K = X.K) {L : Lx} {H : Hp} {d : D} {v : V} {t : String} (e : tyD d = some t) (r : RV G L.F H d v) : TyX X.K H v (.type t) := by
  cases r <;> unfold tyD at e <;> cases e
  · exact .base .non
  · exact .base (.bl _)
  · exact .base (.int _)
  · exact .base (.str _)
  · rename_i h _
    rcases h with ⟨_, h⟩ | ⟨o, its, n, h, c, _⟩
    · exact .base (.tup h)
    · exact .kTuple (by rw [← hK]; exact h) c
/-- isinstance(x, T) -/
def isW (T : String) (d : D) (L : Led) (Q : DK) : Prop := ∃ t b, tyD d = some t ∧ kitB t T = some b ∧ Q (.bl b) L
theorem is_D (hK : G.K = X.K) {T : String} {pins : List (Addr × Obj)} {s : Shared} {σ : St} {H : Hp} {v : V} {us : List Value} {Qv : VK} {d : D} {L : Lx} {Q : DK} (I : Inv X pins σ H s) (rv : Vals [v, .ty T] us) (rl : RL G L H) (r : RV G L.F H d v)
    (w : isW T d L.u Q) (k : ∀ v H', KQ G L H Q v H' → Qv v H') : wpAny (model X.prog X.w) X.A (call (.builtin "isinstance") us) (EP X pins σ Qv) X.xe s := by
  obtain ⟨t, b, e1, e2, q⟩ := w
  exact call_isi pins s σ H _ us Qv I rv ⟨_, _, _, _, _, rfl, .ty T, tyD_ok hK e1 r, kit_ty e2, k _ _ (KQ.here rl (.bl _) q)⟩
theorem isInt_W {d : D} {L : Led} {Q : DK} (w : biW .isInt [d] L Q) : isW "int" d L Q := by
  unfold biW at w
  obtain ⟨b, e, q⟩ := w
  cases d <;> simp only [isA, Option.some.injEq] at e <;> (try cases e) <;> exact ⟨_, _, rfl, by decide +kernel, q⟩
theorem isBool_W {d : D} {L : Led} {Q : DK} (w : biW .isBool [d] L Q) : isW "bool" d L Q := by
  unfold biW at w
  obtain ⟨b, e, q⟩ := w
  cases d <;> simp only [isA, Option.some.injEq] at e <;> (try cases e) <;> exact ⟨_, _, rfl, by decide +kernel, q⟩
theorem isTuple_W {d : D} {L : Led} {Q : DK} (w : biW .isTuple [d] L Q) : isW "tuple" d L Q := by
  unfold biW at w
  obtain ⟨b, e, q⟩ := w
  cases d <;> simp only [isA, Option.some.injEq] at e <;> (try cases e) <;> exact ⟨_, _, rfl, by decide +kernel, q⟩

/-! ### slices, methods, stores -/
theorem cut_whole {l : List D} {lo hi : Option Int} (h1 : HT.sIx l.length 0 lo = 0) (h2 : HT.sIx l.length l.length hi = l.length) : cutD l lo hi = l := by
  unfold cutD
  rw [h1, h2]
  simp
def rS (G : Gx) : V → Option Int → Option Int → Hp → VK → Prop := fun x lo hi H Qv => ∃ d L Q, RL G L H ∧ RV G L.F H d x ∧ slW d lo hi L.u Q ∧ ∀ v H', KQ G L H Q v H' → Qv v H'
theorem sl_D (hK : G.K = X.K) : SlR X (rS G) := by
  intro pins s σ H x v vl vu lo hi sl Qv I rx hs pl pu ⟨d, L, Q, rl, rd, w, k⟩
  unfold slW at w
  split at w
  · cases rd with
    | tup h1 r1 =>
      refine sl_tupA pins s σ H _ v vl vu lo hi sl Qv I rx hs pl pu ⟨_, _, rfl, h1.sq hK, fun hw => ?_, fun _ p hp => k _ _ (KQ.newTup rl r1.cut w p hp)⟩
      rw [cut_whole (by rw [r1.length]; exact hw.1) (by rw [r1.length]; exact hw.2)] at w
      exact k _ _ (KQ.here rl (.tup h1 r1) w)
  · obtain ⟨p, zs, l, rfl, h1, r2, w⟩ := lst_D hK rl w rd
    exact sl_list pins s σ H _ v vl vu lo hi sl Qv I rx hs pl pu ⟨_, _, rfl, h1, fun p hp => k _ _ (KQ.newList rl r2.cut w p hp)⟩
def rM (G : Gx) (f : D → List D → Led → DK → Prop) : V → List V → Hp → VK → Prop := fun x vs H Qv => ∃ d ds L Q, RL G L H ∧ RV G L.F H d x ∧ RVs G L.F H ds vs ∧ f d ds L.u Q ∧ ∀ v H', KQ G L H Q v H' → Qv v H'
theorem append_D : MtM X "list.append" (rM G (meW .append)) := by
  intro pins s σ H x vs v us Qv I rx rv ⟨d, ds, L, Q, rl, rd, rds, w, k⟩
  unfold meW at w
  split at w
  · cases rd
    obtain ⟨z, rfl, r1⟩ := rds.one
    obtain ⟨l, hl, w⟩ := w
    obtain ⟨zs, h1, r2⟩ := Lst.at rl hl
    have hn : L.u _ ≠ none := fun z => by rw [hl] at z; cases z
    exact mt_append pins s σ H _ _ v us Qv I rx rv ⟨_, _, _, rfl, rfl, h1, by rw [← r2.length, ← line_eq]; exact w.1, k _ _ ⟨.non, _, Ext.chg hn, rl.chg hn (.lst upd_same ((r2.append (.cons r1 .nil)).keep (Keep.chg rl hn))), .non, w.2⟩⟩
  · exact w.elim
def rSet (G : Gx) : V → V → V → Hp → (Hp → Prop) → Prop := fun o i v H Qv => ∃ d e f L Q, RL G L H ∧ RV G L.F H d o ∧ RV G L.F H e i ∧ RV G L.F H f v ∧ setIW d e f L.u Q ∧ ∀ L' H', Ext L H L' H' → RL G L' H' → Q L'.u → Qv H'
theorem set_D : PSet X (rSet G) := by
  intro pins s σ H o i v ov iv u Qv I ro ri rv ⟨d, e, f, L, Q, rl, rd, re, rf, w, k⟩
  unfold setIW at w
  split at w
  · cases rd; cases re
    obtain ⟨l, hl, w⟩ := w
    · obtain ⟨zs, h1, r2⟩ := Lst.at rl hl
      have hn : L.u _ ≠ none := fun z => by rw [hl] at z; cases z
      refine set_list pins s σ H _ _ _ ov iv u Qv I ro ri rv ⟨_, _, _, _, rfl, rfl, h1, by unfold ixN; rw [if_pos w.1.1, if_pos (by rw [← r2.length]; exact w.1.2)], k _ _ (Ext.chg hn) (rl.chg hn (.lst upd_same ((r2.set rf _).keep (Keep.chg rl hn)))) w.2⟩
  · exact w.elim
end
end Lg

set_option Elab.async false
set_option linter.all false
set_option maxRecDepth 100000
/-! ## The look at a text: E is what the expression says -/
namespace Lg
open PySem L2

structure Ck where
  N : List Str
  sc : Scope
  blk : Bool

def visB (ck : Ck) (x : Str) : Bool := match ck.sc.names.lookup x with
  | some .local => true | some .cell => true | some .free => true
  | _ => false
def globB (ck : Ck) (x : Str) : Bool := (match ck.sc.names.lookup x with
  | some .globalImplicit => true
  | _ => false) && !(x == ("__debug__" : Str)) && !(x == ("__name__" : Str))
def stB (ck : Ck) (x : Str) : Bool := match ck.sc.names.lookup x with
  | some .local => true
  | some .cell => !ck.blk
  | _ => false
def atB (ck : Ck) (i : Nat) (x : Str) : Bool := decide (ck.N[i]? = some x)
def isName (x : Str) : Expr → Bool
  | .Name y _ => y == x
  | _ => false
def constB : Const → D → Bool
  | .none, .non => true
  | .bool b, .bl c => b == c
  | .int i, .int j => i == j
  | .str x, .str y => x == y
  | _, _ => false
def biName : Bi → Str
  | .len => "len" | .int => "int" | .all => "all" | .tuple => "tuple" | .list => "list" | .max2 => "max" | .min2 => "min" | .sorted => "sorted"
  | .isInt => "isinstance" | .isBool => "isinstance" | .isTuple => "isinstance"
def isTy : Bi → Option Str
  | .isInt => some "int" | .isBool => some "bool" | .isTuple => some "tuple"
  | _ => none
def meName : Me → Str
  | .append => "append"
def plainBase : Expr → Bool
  | .Call _ _ _ _ => false
  | _ => true
def notSet : Expr → Bool
  | .Set _ _ _ => false
  | _ => true
def notSlice : Expr → Bool
  | .Slice _ _ _ _ => false
  | _ => true
/-- a test that is no and, or, not, if, comparison -/
def plainTest : Expr → Bool
  | .UnaryOp .Not _ _ => false
  | .BoolOp _ _ _ => false
  | .IfExp _ _ _ _ => false
  | .Compare _ _ _ _ => false
  | _ => true

mutual
def tslB : T → List Nat
  | .n i => [i]
  | .tu ts => tslsB ts
def tslsB : List T → List Nat
  | [] => []
  | t :: ts => tslB t ++ tslsB ts
end
mutual
def okT (ck : Ck) : T → Expr → Bool
  | .n i, e => match e with
    | .Name x _ => atB ck i x && stB ck x
    | _ => false
  | .tu ts, e => match e with
    | .Tuple es _ _ => okTs ck ts es
    | _ => false
def okTs (ck : Ck) : List T → List Expr → Bool
  | [], es => es.isEmpty
  | t :: ts, es => match es with
    | e :: r => okT ck t e && okTs ck ts r
    | [] => false
end

mutual
def okE : E → Ck → Expr → Bool
  | .v i, ck, e => match e with
    | .Name x _ => atB ck i x && visB ck x && !(x == ("__debug__" : Str)) && !(x == ("__classdict__" : Str))
    | _ => false
  | .c d, ck, e => match e with
    | .Constant k _ _ => constB k d
    | _ => false
  | .g y _, ck, e => match e with
    | .Name x _ => x == y && globB ck x
    | _ => false
  | .neg a, ck, e => match e with
    | .UnaryOp .USub x _ => okE a ck x
    | _ => false
  | .bin o a b, ck, e => match e with
    | .BinOp x p y _ => decide (p = o) && okE a ck x && okE b ck y
    | _ => false
  | .cmp o a b, ck, e => match e with
    | .Compare x ops ys _ => (match ops, ys with
      | [p], [y] => decide (p = o) && okE a ck x && okE b ck y && notSet y
      | _, _ => false)
    | _ => false
  | .chain o p a b c, ck, e => match e with
    | .Compare x ops ys _ => (match ops, ys with
      | [q, r], [y, z] => decide (q = o) && decide (r = p) && okE a ck x && okE b ck y && okE c ck z && notSet z
      | _, _ => false)
    | _ => false
  | .and a b, ck, e => match e with
    | .BoolOp .And (x :: y :: r) p => okE a ck x && okE b ck (if r.isEmpty then y else .BoolOp .And (y :: r) p)
    | _ => false
  | .or a b, ck, e => match e with
    | .BoolOp .Or (x :: y :: r) p => okE a ck x && okE b ck (if r.isEmpty then y else .BoolOp .Or (y :: r) p)
    | _ => false
  | .not a, ck, e => match e with
    | .UnaryOp .Not x _ => okE a ck x
    | _ => false
  | .ite t a b, ck, e => match e with
    | .IfExp c x y _ => okB t ck c && okE a ck x && okE b ck y
    | _ => false
  | .tup es, ck, e => match e with
    | .Tuple xs _ _ => okA es ck xs
    | _ => false
  | .lst es, ck, e => match e with
    | .List xs _ => okA es ck xs
    | _ => false
  | .ix a i, ck, e => match e with
    | .Subscript x y _ => okE a ck x && okE i ck y && notSlice y
    | _ => false
  | .sl a lo hi, ck, e => match e with
    | .Subscript x (.Slice l h none _) _ => okE a ck x && okO lo ck l && okO hi ck h
    | _ => false
  | .call f _ es, ck, e => match e with
    | .Call (.Name x _) xs [] _ => x == f && globB ck x && okA es ck xs
    | _ => false
  | .bi f es, ck, e => match e with
    | .Call (.Name x _) xs [] _ => x == biName f && globB ck x && (match isTy f with
      | none => okA es ck xs && !xs.isEmpty
      | some t => (match es, xs with
        | [a], [y, z] => okE a ck y && isName t z && globB ck t
        | _, _ => false))
    | _ => false
  | .me m o es, ck, e => match e with
    | .Call (.Attribute y n ap) xs [] p => n == meName m && okE o ck y && okA es ck xs && decide (0 < xs.length) && decide (xs.length < 20) && plainBase y && (ap.endLine == p.line)
    | _ => false
  | .lc a t it ifs own, ck, e => match e with
    | .ListComp x [⟨tg, iter, cs, 0⟩] scope _ => blkC ck.N ck.sc scope own && (tslB t).all (fun i => decide (i ∈ own.map (·.2))) && okI it ck iter && notSet iter && okT ⟨ck.N, relS scope ck.sc, true⟩ t tg && okBs ifs ⟨ck.N, relS scope ck.sc, true⟩ cs && okE a ⟨ck.N, relS scope ck.sc, true⟩ x
    | _ => false
def okO : Option E → Ck → Option Expr → Bool
  | none, _, e => e.isNone
  | some a, ck, e => match e with
    | some x => okE a ck x
    | none => false
def okA : List E → Ck → List Expr → Bool
  | [], _, es => es.isEmpty
  | a :: as, ck, es => match es with
    | e :: r => okE a ck e && okA as ck r
    | [] => false
def okB : B → Ck → Expr → Bool
  | .and a b, ck, e => match e with
    | .BoolOp .And (x :: y :: r) p => okB a ck x && okB b ck (if r.isEmpty then y else .BoolOp .And (y :: r) p)
    | _ => false
  | .or a b, ck, e => match e with
    | .BoolOp .Or (x :: y :: r) p => okB a ck x && okB b ck (if r.isEmpty then y else .BoolOp .Or (y :: r) p)
    | _ => false
  | .not a, ck, e => match e with
    | .UnaryOp .Not x _ => okB a ck x
    | _ => false
  | .e a, ck, e => okE a ck e && plainTest e
  | .cmp o a b, ck, e => match e with
    | .Compare x ops ys _ => (match ops, ys with
      | [p], [y] => decide (p = o) && okE a ck x && okE b ck y && notSet y
      | _, _ => false)
    | _ => false
  | .chain o p a b c, ck, e => match e with
    | .Compare x ops ys _ => (match ops, ys with
      | [q, r], [y, z] => decide (q = o) && decide (r = p) && okE a ck x && okE b ck y && okE c ck z && notSet z
      | _, _ => false)
    | _ => false
def okBs : List B → Ck → List Expr → Bool
  | [], _, es => es.isEmpty
  | b :: bs, ck, es => match es with
    | [e] => okB b ck e && bs.isEmpty
    | _ => false
def okI : I → Ck → Expr → Bool
  | .seq a, ck, e => okE a ck e
  | .r1 a, ck, e => match e with
    | .Call (.Name x _) [y] [] _ => x == ("range" : Str) && globB ck x && okE a ck y
    | _ => false
  | .r2 a b, ck, e => match e with
    | .Call (.Name x _) [y, z] [] _ => x == ("range" : Str) && globB ck x && okE a ck y && okE b ck z
    | _ => false
end

/-! what a text leans on: defs with their promises, the module's constants, names that are built in -/
structure Tb where
  fn : Str → Spec → Prop
  gv : Str → D → Prop
  bt : Str → Prop
mutual
def Oks (t : Tb) : E → Prop
  | .v _ => True
  | .c _ => True
  | .g x d => t.gv x d
  | .neg a => Oks t a
  | .bin _ a b => Oks t a ∧ Oks t b
  | .cmp _ a b => Oks t a ∧ Oks t b
  | .chain _ _ a b c => Oks t a ∧ Oks t b ∧ Oks t c
  | .and a b => Oks t a ∧ Oks t b
  | .or a b => Oks t a ∧ Oks t b
  | .not a => Oks t a
  | .ite c a b => OksB t c ∧ Oks t a ∧ Oks t b
  | .tup es => OksA t es
  | .lst es => OksA t es
  | .ix a i => Oks t a ∧ Oks t i
  | .sl a lo hi => Oks t a ∧ OksO t lo ∧ OksO t hi
  | .call f s es => t.fn f s ∧ OksA t es
  | .bi f es => t.bt (biName f) ∧ (match isTy f with
    | some x => t.bt x
    | none => True) ∧ OksA t es
  | .me _ o es => Oks t o ∧ OksA t es
  | .lc e _ it ifs _ => Oks t e ∧ OksI t it ∧ OksBs t ifs
def OksO (t : Tb) : Option E → Prop
  | none => True
  | some a => Oks t a
def OksA (t : Tb) : List E → Prop
  | [] => True
  | a :: as => Oks t a ∧ OksA t as
def OksB (t : Tb) : B → Prop
  | .and a b => OksB t a ∧ OksB t b
  | .or a b => OksB t a ∧ OksB t b
  | .not a => OksB t a
  | .e a => Oks t a
  | .cmp _ a b => Oks t a ∧ Oks t b
  | .chain _ _ a b c => Oks t a ∧ Oks t b ∧ Oks t c
def OksBs (t : Tb) : List B → Prop
  | [] => True
  | b :: bs => OksB t b ∧ OksBs t bs
def OksI (t : Tb) : I → Prop
  | .seq a => Oks t a
  | .r1 a => t.bt "range" ∧ Oks t a
  | .r2 a b => t.bt "range" ∧ Oks t a ∧ Oks t b
end

/-! ### the promise of a def, lifted to the layer -/
def lift (G : Gx) (S : Spec) : L2.Sp := fun vs H Qv Ev => ∃ ds L Q x, RL G L H ∧ RVs G L.F H ds vs ∧ S ds L.u Q x ∧ (∀ v H', KQ G L H Q v H' → Qv v H') ∧
  ∀ c fs L' H' cls dx, Ext L H L' H' → RL G L' H' → RX G L' H' c fs cls dx → x c fs L'.u → Ev cls dx H'
/-- the def x keeps the promise S -/
def FnL (P : Program) (w : World) (G : Gx) (base : Heap) (k : Nat) (f : Str) (S : Spec) : Prop :=
  ∃ (a : Addr) (fd : FuncData) (ps : List Str), G.mg f = some (.ref a) ∧ PySem.W.keepIn G.K (.ref a) = true ∧ Binds G.K fd ps [] ∧ FnOk P w G.K G.mg base (CX P w) k a fd ps (lift G S)
def tbOf (P : Program) (w : World) (G : Gx) (base : Heap) (k : Nat) : Tb where
  fn := FnL P w G base k
  gv := fun x d => ∃ u v, G.mg x = some u ∧ RelV v u ∧ ∀ F H, RV G F H d v
  bt := fun x => G.mg x = none

structure Cok (X : Cx) (G : Gx) (ck : Ck) (k : Nat) (Wx : WX) : Prop where
  hK : G.K = X.K
  hmg : G.mg = X.mg
  hN : X.N = ck.N
  hsc : X.env.scope = ck.sc
  calm : X.calm = true
  nd : X.N.Nodup
  room : Room (k + 2) X.A
  tk : Takes X Wx
  own : PassesOwn (model X.prog X.w) X.A X.env X.xe
  fn : ck.blk = false → ∀ x, X.fn x = true
end Lg

set_option Elab.async false
set_option linter.all false
set_option maxRecDepth 100000
/-! ## What the text asks is enough: expressions -/
namespace Lg
open PySem L2

def tE (G : Gx) (Wx : WX) (e : E) : TE := fun σ H Qv => ∃ r L Q x, RL G L H ∧ RE G L.F H r σ ∧ W e r L.u Q x ∧ XQ G Wx σ L H x ∧ ∀ v H', KQ G L H Q v H' → Qv v H'
def tA (G : Gx) (Wx : WX) (es : List E) : TA := fun σ H Qv => ∃ r L Q x, RL G L H ∧ RE G L.F H r σ ∧ WA es r L.u Q x ∧ XQ G Wx σ L H x ∧ ∀ v H', KA G L H Q v H' → Qv v H'
def tTst (G : Gx) (Wx : WX) (e : B) : TT := fun σ H Qv => ∃ r L Q x, RL G L H ∧ RE G L.F H r σ ∧ WB e r L.u Q x ∧ XQ G Wx σ L H x ∧ ∀ v H', KB G L H Q v H' → Qv v H'
def tTsts (G : Gx) (Wx : WX) (e : List B) : TT := fun σ H Qv => ∃ r L Q x, RL G L H ∧ RE G L.F H r σ ∧ WBs e r L.u Q x ∧ XQ G Wx σ L H x ∧ ∀ v H', KB G L H Q v H' → Qv v H'
def ItOk (G : Gx) (L' : Lx) (H' : Hp) (xs : List D) (stay : Led → Prop) (J : It) : Prop := ∀ L'' H'', Ext L' H' L'' H'' → RL G L'' H'' → stay L''.u →
  (∀ i, i < xs.length → J.go i H'' ∧ ∀ x H3, J.yld i H'' x H3 → ∃ d L3, xs[i]? = some d ∧ L3.u = L''.u ∧ Ext L'' H'' L3 H3 ∧ RL G L3 H3 ∧ RV G L3.F H3 d x) ∧ ∀ i, xs.length ≤ i → J.stop i H''
def tI (G : Gx) (Wx : WX) (it : I) : TI := fun σ H R => ∃ r L Q x, RL G L H ∧ RE G L.F H r σ ∧ WI it r L.u Q x ∧ XQ G Wx σ L H x ∧ ∀ xs stay L' J H', Ext L H L' H' → RL G L' H' → ItOk G L' H' xs stay J → Q xs stay L'.u → R J H'
abbrev tsl := tslB
abbrev tsls := tslsB
def SetIn (ns : List Nat) (σ σ' : St) : Prop := σ'.length = σ.length ∧ ∀ i, i ∉ ns → σ'[i]? = σ[i]?
def gT (G : Gx) (t : T) : TG := fun v σ H Qs => ∃ d r L Q, RL G L H ∧ RE G L.F H r σ ∧ RV G L.F H d v ∧ WT t d r Q ∧ ∀ r' σ', RE G L.F H r' σ' → SetIn (tsl t) σ σ' → Q r' → Qs σ' H
def gTs (G : Gx) (ts : List T) : TGs := fun vs σ H Qs => ∃ ds r L Q, RL G L H ∧ RE G L.F H r σ ∧ RVs G L.F H ds vs ∧ WTs ts ds r Q ∧ ∀ r' σ', RE G L.F H r' σ' → SetIn (tsls ts) σ σ' → Q r' → Qs σ' H

theorem PE.imp {X : Cx} {a : Expr} {t t' : TE} (h : PE X a t) (i : ∀ σ H Q, t' σ H Q → t σ H Q) : PE X a t' := ⟨fun pins s σ H Q I q => h.run pins s σ H Q I (i _ _ _ q)⟩
theorem PT.imp {X : Cx} {a : Expr} {t t' : TT} (h : PT X a t) (i : ∀ σ H Q, t' σ H Q → t σ H Q) : PT X a t' := ⟨fun pins s σ H Q I q => h.run pins s σ H Q I (i _ _ _ q)⟩
theorem PW.imp {X : Cx} {a : Expr} {t t' : TT} (h : PW X a t) (i : ∀ σ H Q, t' σ H Q → t σ H Q) : PW X a t' := ⟨fun wh pins s σ H Q I q => h.run wh pins s σ H Q I (i _ _ _ q)⟩
theorem PA.imp {X : Cx} {a : List Expr} {t t' : TA} (h : PA X a t) (i : ∀ σ H Q, t' σ H Q → t σ H Q) : PA X a t' := ⟨fun pos pins s σ H Q I q => h.run pos pins s σ H Q I (i _ _ _ q)⟩
theorem PTs.imp {X : Cx} {a : List Expr} {t t' : TT} (h : PTs X a t) (i : ∀ σ H Q, t' σ H Q → t σ H Q) : PTs X a t' := ⟨fun pins s σ H Q I q => h.run pins s σ H Q I (i _ _ _ q)⟩
theorem PI.imp {X : Cx} {tg a : Expr} {t t' : TI} (h : PI X tg a t) (i : ∀ σ H Q, t' σ H Q → t σ H Q) : PI X tg a t' := ⟨fun pins s σ H Q I q => h.run pins s σ H Q I (i _ _ _ q)⟩

section
variable {X : Cx} {G : Gx} {ck : Ck} {k : Nat} {Wx : WX} {a b c : Expr} {ea eb ec : E} {es : List Expr} {ees : List E} {pos : Pos} {σ : St} {H : Hp} {L : Lx} {r : Rho} {x : Ex}

/-- one expression ahead of something -/
theorem one_tE {F : D → Led → Prop} {R : V → Hp → Prop} (rl : RL G L H) (re : RE G L.F H r σ) (xq : XQ G Wx σ L H x) (w : W ea r L.u F x)
    (h : ∀ v d L1 H1, Ext L H L1 H1 → RL G L1 H1 → RE G L1.F H1 r σ → XQ G Wx σ L1 H1 x → RV G L1.F H1 d v → F d L1.u → R v H1) : tE G Wx ea σ H R :=
  ⟨r, L, F, x, rl, re, w, xq, fun v H1 ⟨d, L1, e1, r1, rv, f⟩ => h v d L1 H1 e1 r1 (re.ext rl e1) (xq.fwd e1) rv f⟩
theorem two_tE {F : D → D → Led → Prop} {R : V → V → Hp → Prop} (rl : RL G L H) (re : RE G L.F H r σ) (xq : XQ G Wx σ L H x) (w : W ea r L.u (fun d L1 => W eb r L1 (fun e L2 => F d e L2) x) x)
    (h : ∀ v u d e L2 H2, Ext L H L2 H2 → RL G L2 H2 → RE G L2.F H2 r σ → XQ G Wx σ L2 H2 x → RV G L2.F H2 d v → RV G L2.F H2 e u → F d e L2.u → R v u H2) : tE G Wx ea σ H fun v H1 => tE G Wx eb σ H1 fun u H2 => R v u H2 :=
  one_tE rl re xq w fun v d L1 H1 e1 r1 re1 xq1 rv f => one_tE r1 re1 xq1 f fun u e L2 H2 e2 r2 re2 xq2 ru g => h v u d e L2 H2 (e1.trans e2) r2 re2 xq2 (rv.ext r1 e2) ru g
theorem all_tA {F : List D → Led → Prop} {R : List V → Hp → Prop} (rl : RL G L H) (re : RE G L.F H r σ) (xq : XQ G Wx σ L H x) (w : WA ees r L.u F x)
    (h : ∀ vs ds L1 H1, Ext L H L1 H1 → RL G L1 H1 → RE G L1.F H1 r σ → XQ G Wx σ L1 H1 x → RVs G L1.F H1 ds vs → F ds L1.u → R vs H1) : tA G Wx ees σ H R :=
  ⟨r, L, F, x, rl, re, w, xq, fun v H1 ⟨d, L1, e1, r1, rv, f⟩ => h v d L1 H1 e1 r1 (re.ext rl e1) (xq.fwd e1) rv f⟩
theorem tst_tE {eb : B} {F : Bool → Led → Prop} {R : Bool → Hp → Prop} (rl : RL G L H) (re : RE G L.F H r σ) (xq : XQ G Wx σ L H x) (w : WB eb r L.u F x)
    (h : ∀ v L1 H1, Ext L H L1 H1 → RL G L1 H1 → RE G L1.F H1 r σ → XQ G Wx σ L1 H1 x → F v L1.u → R v H1) : tTst G Wx eb σ H R :=
  ⟨r, L, F, x, rl, re, w, xq, fun v H1 ⟨L1, e1, r1, f⟩ => h v L1 H1 e1 r1 (re.ext rl e1) (xq.fwd e1) f⟩

theorem vis_of (C : Cok X G ck k Wx) {y : Str} (h : visB ck y = true) : Vis X.env.scope y := by
  unfold Vis; rw [C.hsc]
  unfold visB at h
  split at h
  · exact .inl (by assumption)
  · exact .inr (.inl (by assumption))
  · exact .inr (.inr (by assumption))
  · cases h
theorem gl_of (C : Cok X G ck k Wx) {y : Str} (h : globB ck y = true) : Gl X y ∧ (y == ("__debug__" : Str)) = false ∧ y ≠ "__name__" := by
  unfold globB at h
  simp only [Bool.and_eq_true, Bool.not_eq_true'] at h
  obtain ⟨⟨h1, h2⟩, h3⟩ := h
  refine ⟨?_, h2, fun z => by rw [z] at h3; simp at h3⟩
  show X.env.scope.names.lookup y = _
  rw [C.hsc]
  split at h1
  · assumption
  · cases h1
theorem se_v (C : Cok X G ck k Wx) {i : Nat} (h : okE (.v i) ck a = true) : PE X a (tE G Wx (.v i)) := by
  cases a <;> unfold okE at h <;> simp only [Bool.false_eq_true] at h
  simp only [Bool.and_eq_true, Bool.not_eq_true', atB, decide_eq_true_eq] at h
  refine PE.imp (pe_var (by rw [C.hN]; exact h.1.1.1) (vis_of C h.1.1.2) h.1.2 h.2) fun σ H Qv ⟨r, L, Q, x, rl, re, w, xq, kq⟩ => ?_
  unfold W at w
  split at w
  · rename_i d e
    obtain ⟨v, e1, r1⟩ := re.2 i d e
    exact ⟨v, e1, kq _ _ (KQ.here rl r1 w)⟩
  · exact w.elim
theorem se_c {d : D} (h : okE (.c d) ck a = true) : PE X a (tE G Wx (.c d)) := by
  cases a <;> unfold okE at h <;> simp only [Bool.false_eq_true] at h
  unfold constB at h
  split at h
  · exact PE.imp pe_non fun σ H Qv ⟨r, L, Q, x, rl, re, w, xq, kq⟩ => kq _ _ (KQ.here rl .non (by unfold W at w; exact w))
  · have e := eq_of_beq h; subst e
    exact PE.imp pe_bl fun σ H Qv ⟨r, L, Q, x, rl, re, w, xq, kq⟩ => kq _ _ (KQ.here rl (.bl _) (by unfold W at w; exact w))
  · have e := eq_of_beq h; subst e
    exact PE.imp pe_int fun σ H Qv ⟨r, L, Q, x, rl, re, w, xq, kq⟩ => kq _ _ (KQ.here rl (.int _) (by unfold W at w; exact w))
  · have e := eq_of_beq h; subst e
    exact PE.imp pe_str fun σ H Qv ⟨r, L, Q, x, rl, re, w, xq, kq⟩ => kq _ _ (KQ.here rl (.str _) (by unfold W at w; exact w))
  · cases h
theorem se_g (C : Cok X G ck k Wx) {y : Str} {d : D} (h : okE (.g y d) ck a = true) (o : Oks (tbOf X.prog X.w G X.base k) (.g y d)) : PE X a (tE G Wx (.g y d)) := by
  cases a <;> unfold okE at h <;> simp only [Bool.false_eq_true] at h
  simp only [Bool.and_eq_true, beq_iff_eq] at h
  obtain ⟨rfl, h⟩ := h
  obtain ⟨g1, g2, g3⟩ := gl_of C h
  unfold Oks at o
  obtain ⟨u, v, e, rv, rd⟩ := o
  refine PE.imp (pe_glob g1 (by rw [← C.hmg]; exact e) rv g2) fun σ H Qv ⟨r, L, Q, x, rl, re, w, xq, kq⟩ => ?_
  unfold W at w
  exact kq _ _ (KQ.here rl (rd _ _) w)
theorem se_neg (ha : PE X a (tE G Wx ea)) : PE X (.UnaryOp .USub a pos) (tE G Wx (.neg ea)) := by
  refine PE.imp (pe_un un_neg ha) fun σ H Qv ⟨r, L, Q, x, rl, re, w, xq, kq⟩ => ?_
  unfold W at w
  refine one_tE rl re xq w fun v d L1 H1 e1 r1 re1 xq1 rv f => ?_
  cases rv <;> first
    | exact f.elim
    | exact ⟨_, rfl, kq _ _ (KQ.back e1 (KQ.here r1 (.int _) f))⟩
theorem se_bin (C : Cok X G ck k Wx) {o : Operator} (ha : PE X a (tE G Wx ea)) (hb : PE X b (tE G Wx eb)) : PE X (.BinOp a o b pos) (tE G Wx (.bin o ea eb)) := by
  refine PE.imp (pe_op (op_bin C.hK o) ha hb) fun σ H Qv ⟨r, L, Q, x, rl, re, w, xq, kq⟩ => ?_
  unfold W at w
  exact two_tE rl re xq w fun v u d e L2 H2 e2 r2 re2 xq2 rv ru f => ⟨d, e, L2, Q, r2, rv, ru, f, fun v H' q => kq _ _ (KQ.back e2 q)⟩
theorem nomarkS {o : CmpOp} (h : notSet b = true) : behindInMarks o b = false := by
  cases b <;> first | rfl | (simp [notSet] at h)
theorem se_cmp (C : Cok X G ck k Wx) {o : CmpOp} (hs : notSet b = true) (ha : PE X a (tE G Wx ea)) (hb : PE X b (tE G Wx eb)) : PE X (.Compare a [o] [b] pos) (tE G Wx (.cmp o ea eb)) := by
  refine PE.imp (pe_cmpR (op_cmpD C.hK (room65 C.room) o) ha hb (nomarkS hs)) fun σ H Qv ⟨r, L, Q, x, rl, re, w, xq, kq⟩ => ?_
  unfold W at w
  exact two_tE rl re xq w fun v u d e L2 H2 e2 r2 re2 xq2 rv ru f => ⟨d, e, L2, Q, r2, rv, ru, f, fun v H' q => kq _ _ (KQ.back e2 q)⟩
theorem sb_cmp (C : Cok X G ck k Wx) {o : CmpOp} (hs : notSet b = true) (ha : PE X a (tE G Wx ea)) (hb : PE X b (tE G Wx eb)) : PT X (.Compare a [o] [b] pos) (tTst G Wx (.cmp o ea eb)) := by
  refine PT.imp (pt_cmpR (op_cmpD C.hK (room65 C.room) o) ha hb (nomarkS hs)) fun σ H Qv ⟨r, L, Q, x, rl, re, w, xq, kq⟩ => ?_
  unfold WB at w
  refine two_tE rl re xq w fun v u d e L2 H2 e2 r2 re2 xq2 rv ru f => ⟨d, e, L2, _, r2, rv, ru, f, fun v H' ⟨d', L3, e3, r3, rv3, k3, ek, q⟩ => ?_⟩
  subst ek
  cases rv3
  exact ⟨_, rfl, kq _ _ ⟨L3, e2.trans e3, r3, q⟩⟩
theorem chain_tE (C : Cok X G ck k Wx) {o p : CmpOp} {Q : DK} {Qv : VK} (rl : RL G L H) (re : RE G L.F H r σ) (xq : XQ G Wx σ L H x)
    (w : W ea r L.u (fun d L1 => W eb r L1 (fun e L2 => cmpW o d e L2 fun z L3 => ∃ k, z = .bl k ∧ IF k (W ec r L3 (fun f L4 => cmpW p e f L4 Q) x) (Q (.bl false) L3)) x) x)
    (kq : ∀ v H', KQ G L H Q v H' → Qv v H') : tChain (rD G (cmpW o)) (rD G (cmpW p)) (tE G Wx ea) (tE G Wx eb) (tE G Wx ec) σ H Qv := by
  refine two_tE rl re xq w fun v u d e L2 H2 e2 r2 re2 xq2 rv ru f => ⟨d, e, L2, _, r2, rv, ru, f, fun v' H' ⟨d', L3, e3, r3, rv3, k3, ek, q⟩ => ?_⟩
  subst ek
  cases rv3
  refine ⟨_, rfl, ?_⟩
  cases k3 with
  | false => exact kq _ _ ⟨.bl false, L3, e2.trans e3, r3, .bl false, q.2 rfl⟩
  | true =>
    replace q := q.1 rfl
    simp only [if_true]
    refine one_tE r3 (re2.ext r2 e3) (xq2.fwd e3) q fun vz dz L4 H4 e4 r4 re4 xq4 rz fz => ⟨e, dz, L4, Q, r4, (ru.ext r2 e3).ext r3 e4, rz, fz, fun v H' q => kq _ _ (KQ.back ((e2.trans e3).trans e4) q)⟩
theorem se_chain (C : Cok X G ck k Wx) {o p : CmpOp} (hs : notSet c = true) (ha : PE X a (tE G Wx ea)) (hb : PE X b (tE G Wx eb)) (hc : PE X c (tE G Wx ec)) : PE X (.Compare a [o, p] [b, c] pos) (tE G Wx (.chain o p ea eb ec)) := by
  refine PE.imp (pe_chain (op_cmpD C.hK (room65 C.room) o) (op_cmpD C.hK (room65 C.room) p) ha hb hc (nomarkS (o := p) hs)) fun σ H Qv ⟨r, L, Q, x, rl, re, w, xq, kq⟩ => ?_
  unfold W at w
  exact chain_tE C rl re xq w kq
end
end Lg

set_option Elab.async false
set_option linter.all false
set_option maxRecDepth 100000
namespace Lg
open PySem L2
section
variable {X : Cx} {G : Gx} {ck : Ck} {k : Nat} {Wx : WX} {a b c : Expr} {ea eb ec : E} {ba bb : B} {es rest : List Expr} {ees : List E} {pos p2 p3 : Pos} {σ : St} {H : Hp} {L : Lx} {r : Rho} {x : Ex}

theorem sb_chain (C : Cok X G ck k Wx) {o p : CmpOp} (hs : notSet c = true) (ha : PE X a (tE G Wx ea)) (hb : PE X b (tE G Wx eb)) (hc : PE X c (tE G Wx ec)) : PT X (.Compare a [o, p] [b, c] pos) (tTst G Wx (.chain o p ea eb ec)) := by
  refine PT.imp (pt_chain (op_cmpD C.hK (room65 C.room) o) (op_cmpD C.hK (room65 C.room) p) ha hb hc (nomarkS (o := p) hs)) fun σ H Qv ⟨r, L, Q, x, rl, re, w, xq, kq⟩ => ?_
  unfold WB at w
  refine chain_tE (Q := fun z L5 => ∃ k, z = .bl k ∧ Q k L5) C rl re xq ?_ fun v H' ⟨d, L', e1, r1, rv, k1, ek, q⟩ => ?_
  · have e : ∀ (e : D), (fun (z : D) (L3 : Led) => ∃ k, z = .bl k ∧ IF k (W ec r L3 (fun f L4 => cmpW p e f L4 fun z L5 => ∃ k, z = .bl k ∧ Q k L5) x) (Q false L3)) = (fun (z : D) (L3 : Led) => ∃ k, z = D.bl k ∧ IF k (W ec r L3 (fun f L4 => cmpW p e f L4 fun z L5 => ∃ k, z = .bl k ∧ Q k L5) x) ((fun z L5 => ∃ k, z = D.bl k ∧ Q k L5) (.bl false) L3)) := by
      intro e
      funext z L3
      simp
    simp only [e] at w
    exact w
  · subst ek
    cases rv
    exact ⟨_, rfl, kq _ _ ⟨L', e1, r1, q⟩⟩
theorem se_and (ha : PE X a (tE G Wx ea)) (hb : PE X (.BoolOp .And (b :: rest) pos) (tE G Wx eb)) : PE X (.BoolOp .And (a :: b :: rest) pos) (tE G Wx (.and ea eb)) := by
  refine PE.imp (pe_and ha hb) fun σ H Qv ⟨r, L, Q, x, rl, re, w, xq, kq⟩ => ?_
  unfold W at w
  refine one_tE rl re xq w fun v d L1 H1 e1 r1 re1 xq1 rv ⟨k1, ek, f⟩ => ?_
  subst ek
  cases rv
  refine ⟨_, rfl, ?_⟩
  cases k1 with
  | false => exact kq _ _ ⟨.bl false, L1, e1, r1, .bl false, f.2 rfl⟩
  | true =>
    replace f := f.1 rfl
    simp only [if_true]
    exact one_tE r1 re1 xq1 f fun v d L2 H2 e2 r2 _ _ rv f => kq _ _ ⟨d, L2, e1.trans e2, r2, rv, f⟩
theorem se_or (ha : PE X a (tE G Wx ea)) (hb : PE X (.BoolOp .Or (b :: rest) pos) (tE G Wx eb)) : PE X (.BoolOp .Or (a :: b :: rest) pos) (tE G Wx (.or ea eb)) := by
  refine PE.imp (pe_or ha hb) fun σ H Qv ⟨r, L, Q, x, rl, re, w, xq, kq⟩ => ?_
  unfold W at w
  refine one_tE rl re xq w fun v d L1 H1 e1 r1 re1 xq1 rv ⟨k1, ek, f⟩ => ?_
  subst ek
  cases rv
  refine ⟨_, rfl, ?_⟩
  cases k1 with
  | true => exact kq _ _ ⟨.bl true, L1, e1, r1, .bl true, f.1 rfl⟩
  | false =>
    replace f := f.2 rfl
    simp only [Bool.false_eq_true, if_false]
    exact one_tE r1 re1 xq1 f fun v d L2 H2 e2 r2 _ _ rv f => kq _ _ ⟨d, L2, e1.trans e2, r2, rv, f⟩
theorem se_not (ha : PE X a (tE G Wx ea)) : PE X (.UnaryOp .Not a pos) (tE G Wx (.not ea)) := by
  refine PE.imp (pe_not ha) fun σ H Qv ⟨r, L, Q, x, rl, re, w, xq, kq⟩ => ?_
  unfold W at w
  refine one_tE rl re xq w fun v d L1 H1 e1 r1 re1 xq1 rv ⟨k1, ek, f⟩ => ?_
  subst ek
  cases rv
  exact ⟨_, rfl, kq _ _ ⟨.bl (!k1), L1, e1, r1, .bl _, f⟩⟩
theorem sb_and (ha : PT X a (tTst G Wx ba)) (hb : PW X (.BoolOp .And (b :: rest) pos) (tTst G Wx bb)) : PW X (.BoolOp .And (a :: b :: rest) pos) (tTst G Wx (.and ba bb)) := by
  refine PW.imp (pw_and ha hb) fun σ H Qv ⟨r, L, Q, x, rl, re, w, xq, kq⟩ => ?_
  unfold WB at w
  refine tst_tE rl re xq w fun v L1 H1 e1 r1 re1 xq1 f => ?_
  cases v with
  | false => exact kq _ _ ⟨L1, e1, r1, f.2 rfl⟩
  | true =>
    replace f := f.1 rfl
    simp only [if_true]
    exact tst_tE r1 re1 xq1 f fun v L2 H2 e2 r2 _ _ f => kq _ _ ⟨L2, e1.trans e2, r2, f⟩
theorem sb_or (ha : PT X a (tTst G Wx ba)) (hb : PW X (.BoolOp .Or (b :: rest) pos) (tTst G Wx bb)) : PW X (.BoolOp .Or (a :: b :: rest) pos) (tTst G Wx (.or ba bb)) := by
  refine PW.imp (pw_or ha hb) fun σ H Qv ⟨r, L, Q, x, rl, re, w, xq, kq⟩ => ?_
  unfold WB at w
  refine tst_tE rl re xq w fun v L1 H1 e1 r1 re1 xq1 f => ?_
  cases v with
  | true => exact kq _ _ ⟨L1, e1, r1, f.1 rfl⟩
  | false =>
    replace f := f.2 rfl
    simp only [Bool.false_eq_true, if_false]
    exact tst_tE r1 re1 xq1 f fun v L2 H2 e2 r2 _ _ f => kq _ _ ⟨L2, e1.trans e2, r2, f⟩
theorem sb_not (ha : PT X a (tTst G Wx ba)) : PT X (.UnaryOp .Not a pos) (tTst G Wx (.not ba)) := by
  refine PT.imp (pt_not ha) fun σ H Qv ⟨r, L, Q, x, rl, re, w, xq, kq⟩ => ?_
  unfold WB at w
  exact tst_tE rl re xq w fun v L1 H1 e1 r1 re1 xq1 f => kq _ _ ⟨L1, e1, r1, f⟩
theorem sb_e (C : Cok X G ck k Wx) (ht : plainTest a = true) (ha : PE X a (tE G Wx ea)) : PT X a (tTst G Wx (.e ea)) := by
  refine PT.imp (pt_truth ha ?_) fun σ H Qv ⟨r, L, Q, x, rl, re, w, xq, kq⟩ => ?_
  · intro wh
    cases a with
    | UnaryOp o y p =>
      cases o <;> first | rfl | (simp [plainTest] at ht)
    | _ => first | rfl | (simp [plainTest] at ht)
  · unfold WB at w
    refine one_tE rl re xq w fun v d L1 H1 e1 r1 re1 xq1 rv f => ?_
    obtain ⟨k1, t1, q1⟩ := tru_D C.hK r1 rv f
    exact ⟨k1, t1, kq _ _ ⟨L1, e1, r1, q1⟩⟩
theorem se_ite {bt : B} {t : Expr} (ht : PT X t (tTst G Wx bt)) (ha : PE X a (tE G Wx ea)) (hb : PE X b (tE G Wx eb)) : PE X (.IfExp t a b pos) (tE G Wx (.ite bt ea eb)) := by
  refine PE.imp (pe_ifExp ht ha hb) fun σ H Qv ⟨r, L, Q, x, rl, re, w, xq, kq⟩ => ?_
  unfold W at w
  refine tst_tE rl re xq w fun v L1 H1 e1 r1 re1 xq1 f => ?_
  cases v with
  | true =>
    replace f := f.1 rfl
    simp only [if_true]
    exact one_tE r1 re1 xq1 f fun v d L2 H2 e2 r2 _ _ rv f => kq _ _ ⟨d, L2, e1.trans e2, r2, rv, f⟩
  | false =>
    replace f := f.2 rfl
    simp only [Bool.false_eq_true, if_false]
    exact one_tE r1 re1 xq1 f fun v d L2 H2 e2 r2 _ _ rv f => kq _ _ ⟨d, L2, e1.trans e2, r2, rv, f⟩
theorem sa_nil : PA X [] (tA G Wx []) := by
  refine PA.imp pa_nil fun σ H Qv ⟨r, L, Q, x, rl, re, w, xq, kq⟩ => ?_
  unfold WA at w
  exact kq _ _ ⟨[], L, Ext.refl, rl, .nil, w⟩
def notStar : Expr → Bool
  | .Starred _ _ => false
  | _ => true
theorem star_cons (h : notStar a = true) (env : Env) : starEach (a :: es) env = (false, eval a env) :: starEach es env := by
  cases a <;> first | rfl | (simp [notStar] at h)
theorem sa_cons (hs : notStar a = true) (ha : PE X a (tE G Wx ea)) (hr : PA X es (tA G Wx ees)) : PA X (a :: es) (tA G Wx (ea :: ees)) := by
  refine PA.imp (pa_cons ha hr (star_cons hs _)) fun σ H Qv ⟨r, L, Q, x, rl, re, w, xq, kq⟩ => ?_
  unfold WA at w
  exact one_tE rl re xq w fun v d L1 H1 e1 r1 re1 xq1 rv f => all_tA r1 re1 xq1 f fun vs ds L2 H2 e2 r2 _ _ rvs f => kq _ _ ⟨d :: ds, L2, e1.trans e2, r2, .cons (rv.ext r1 e2) rvs, f⟩
theorem se_tup {x1} (h : PA X es (tA G Wx ees)) : PE X (.Tuple es x1 pos) (tE G Wx (.tup ees)) := by
  refine PE.imp (pe_tup h) fun σ H Qv ⟨r, L, Q, x, rl, re, w, xq, kq⟩ => ?_
  unfold W at w
  exact all_tA rl re xq w fun vs ds L1 H1 e1 r1 _ _ rv f => ⟨by rw [← rv.length, ← line_eq]; exact f.1, fun p hp => kq _ _ (KQ.back e1 (KQ.newTup r1 rv f.2 p hp))⟩
theorem se_lst (h : PA X es (tA G Wx ees)) : PE X (.List es pos) (tE G Wx (.lst ees)) := by
  refine PE.imp (pe_lst h) fun σ H Qv ⟨r, L, Q, x, rl, re, w, xq, kq⟩ => ?_
  unfold W at w
  exact all_tA rl re xq w fun vs ds L1 H1 e1 r1 _ _ rv f => ⟨by rw [← rv.length, ← line_eq]; exact f.1, fun p hp => kq _ _ (KQ.back e1 (KQ.newList r1 rv f p hp))⟩
theorem plainIx_of (h : notSlice b = true) : PlainIx b := by
  intro o i
  cases b <;> first | rfl | (simp [notSlice] at h)
theorem se_ix (C : Cok X G ck k Wx) (hs : notSlice b = true) (ha : PE X a (tE G Wx ea)) (hb : PE X b (tE G Wx eb)) : PE X (.Subscript a b pos) (tE G Wx (.ix ea eb)) := by
  refine PE.imp (pe_ix (ix_D C.hK) ha hb (plainIx_of hs)) fun σ H Qv ⟨r, L, Q, x, rl, re, w, xq, kq⟩ => ?_
  unfold W at w
  exact two_tE rl re xq w fun v u d e L2 H2 e2 r2 re2 xq2 rv ru f => ⟨d, e, L2, Q, r2, rv, ru, f, fun v H' q => kq _ _ (KQ.back e2 q)⟩
def tOp' (G : Gx) (Wx : WX) (e : Option E) : TO := fun σ H Qv => ∃ r L Q x, RL G L H ∧ RE G L.F H r σ ∧ WO e r L.u Q x ∧ XQ G Wx σ L H x ∧ ∀ i H', (∃ L', Ext L H L' H' ∧ RL G L' H' ∧ Q i L'.u) → Qv i H'
theorem so_none : PO X none (tOp' G Wx none) := by
  refine ⟨fun pins s σ H Qv I ⟨r, L, Q, x, rl, re, w, xq, kq⟩ => po_none.run pins s σ H Qv I ?_⟩
  unfold WO at w
  exact kq _ _ ⟨L, Ext.refl, rl, w⟩
theorem so_some (ha : PE X a (tE G Wx ea)) : PO X (some a) (tOp' G Wx (some ea)) := by
  refine ⟨fun pins s σ H Qv I ⟨r, L, Q, x, rl, re, w, xq, kq⟩ => (po_some ha).run pins s σ H Qv I ?_⟩
  unfold WO at w
  refine one_tE rl re xq w fun v d L1 H1 e1 r1 re1 xq1 rv f => ?_
  cases rv <;> first
    | exact f.elim
    | exact ⟨_, rfl, kq _ _ ⟨L1, e1, r1, f⟩⟩
theorem se_sl (C : Cok X G ck k Wx) {lo hi : Option Expr} {elo ehi : Option E} (ha : PE X a (tE G Wx ea)) (hl : PO X lo (tOp' G Wx elo)) (hh : PO X hi (tOp' G Wx ehi)) : PE X (.Subscript a (.Slice lo hi none p2) pos) (tE G Wx (.sl ea elo ehi)) := by
  refine PE.imp (pe_slice (sl_D C.hK) ha hl hh) fun σ H Qv ⟨r, L, Q, x, rl, re, w, xq, kq⟩ => ?_
  unfold W at w
  refine one_tE rl re xq w fun v d L1 H1 e1 r1 re1 xq1 rv f => ⟨r, L1, _, x, r1, re1, f, xq1, fun i H2 ⟨L2, e2, r2, q2⟩ => ⟨r, L2, _, x, r2, re1.ext r1 e2, q2, xq1.fwd e2, fun j H3 ⟨L3, e3, r3, q3⟩ => ?_⟩⟩
  exact ⟨d, L3, Q, r3, (rv.ext r1 e2).ext r2 e3, q3, fun v H' q => kq _ _ (KQ.back ((e1.trans e2).trans e3) q)⟩

/-! ### calls -/
theorem stars_of : ∀ {es : List Expr}, es.all notStar = true → ∀ {p : Pos} {env : Env}, (backTo p (starEach es env)).any (·.1) = false
  | [], _, _, _ => rfl
  | a :: es, h, p, env => by
    simp only [List.all_cons, Bool.and_eq_true] at h
    rw [star_cons h.1]
    have ih := stars_of h.2 (p := p) (env := env)
    unfold backTo at ih ⊢
    simpa using ih
theorem run_L (C : Cok X G ck k Wx) {f : Addr} {fd : FuncData} {ps : List Str} {S : Spec} {pins : List (Addr × Obj)} {s : Shared} {us : List Value} {vs : List V} {ds : List D} {Q : DK} {Qv : VK} (F : FnOk X.prog X.w X.K X.mg X.base (CX X.prog X.w) k f fd ps (lift G S)) (hb : Binds X.K fd ps [])
    (I : Inv X pins σ H s) (r : Vals vs us) (rl : RL G L H) (rd : RVs G L.F H ds vs) (w : S ds L.u Q x) (xq : XQ G Wx σ L H x) (kq : ∀ v H', KQ G L H Q v H' → Qv v H') :
    wpAny (model X.prog X.w) X.A (call (.ref f) us) (EP X pins σ Qv) X.xe s := by
  have hp : lift G S vs H Qv (fun cls dx H' => Wx cls dx σ H') := ⟨ds, L, Q, x, rl, rd, w, kq, xq⟩
  have hb' := hb s us I.kIn (by rw [List.append_nil, ← r.length]; exact F.len _ _ _ _ hp)
  rw [List.append_nil] at hb'
  refine wpAny_call (codeAny_mono (F.run X.A X.stack s H ⟨us, []⟩ us vs Qv _ (C.room.mono (by omega)) I.env0 hb' r hp) fun r s' hq => ?_)
  cases r with
  | error e => exact C.tk e s' (XE.of_call I (fun cls d H' h => h) hq)
  | ok fl =>
    cases fl with
    | ret u => exact I.after hq
    | next => exact False.elim hq
    | brk => exact False.elim hq
    | cont => exact False.elim hq
theorem se_call (C : Cok X G ck k Wx) {f : Str} {S : Spec} (hf : FnL X.prog X.w G X.base k f S) (hg : globB ck f = true) (hst : es.all notStar = true) (ho : okA ees ck es = true) (h : PA X es (tA G Wx ees)) : PE X (.Call (.Name f p2) es [] pos) (tE G Wx (.call f S ees)) := by
  obtain ⟨g1, g2, g3⟩ := gl_of C hg
  obtain ⟨af, fd, ps, hm, kp, hb, F⟩ := hf
  rw [C.hK, C.hmg] at F
  rw [C.hK] at hb kp
  rw [C.hmg] at hm
  refine ⟨fun pins s σ H Qv I ⟨r, L, Q, x, rl, re, w, xq, kq⟩ => ?_⟩
  unfold W at w
  refine wpAny_Call_Name_kw (ld_glob I g1 hm ?_ g2)
  have fin : ∀ {H1 : Hp} {s1 : Shared} {vs : List V} {us : List Value}, Inv X pins σ H1 s1 → Vals vs us → KA G L H (fun ds L1 => S ds L1 Q x) vs H1 → wpAny (model X.prog X.w) X.A (call (.ref af) us) (EP X pins σ Qv) X.xe s1 := by
    intro H1 s1 vs us I1 rv ⟨ds, L1, e1, r1, rd, w1⟩
    exact run_L C F hb I1 rv r1 rd w1 (xq.fwd e1) fun v H' q => kq _ _ (KQ.back e1 q)
  cases es with
  | nil =>
    refine PySem.W.callWith_K0 I.kIn kp ?_
    cases ees with
    | nil =>
      unfold WA at w
      exact fin I .nil ⟨[], L, Ext.refl, rl, .nil, w⟩
    | cons a b => exact (nomatch ho)
  | cons e1 es =>
    simp only [List.all_cons, Bool.and_eq_true] at hst
    refine PySem.W.callWith_K (h₀ := X.base) I.ok.mod.kin kp (thn (h.run pos pins s σ H _ I ⟨r, L, _, x, rl, re, w, xq, fun _ _ q => q⟩) fun us s1 ⟨vs, H1, I1, r1, q⟩ => ⟨I1.kIn, fin I1 r1 q⟩) (star_cons hst.1 _) (stars_of hst.2)
end
end Lg

set_option Elab.async false
set_option linter.all false
set_option maxRecDepth 100000
namespace Lg
open PySem L2
theorem bt_len : bootBuiltins "len" = some (.builtin "len") := by decide +kernel
theorem bt_all : bootBuiltins "all" = some (.builtin "all") := by decide +kernel
theorem bt_max : bootBuiltins "max" = some (.builtin "max") := by decide +kernel
theorem bt_min : bootBuiltins "min" = some (.builtin "min") := by decide +kernel
theorem bt_sorted : bootBuiltins "sorted" = some (.builtin "sorted") := by decide +kernel
theorem bt_isi : bootBuiltins "isinstance" = some (.builtin "isinstance") := by decide +kernel
theorem bt_int : bootBuiltins "int" = some (.type "int") := by decide +kernel
theorem bt_bool : bootBuiltins "bool" = some (.type "bool") := by decide +kernel
theorem bt_tuple : bootBuiltins "tuple" = some (.type "tuple") := by decide +kernel
theorem bt_list : bootBuiltins "list" = some (.type "list") := by decide +kernel
section
variable {X : Cx} {G : Gx} {ck : Ck} {k : Nat} {Wx : WX} {a b c : Expr} {ea eb ec : E} {ba bb : B} {es rest : List Expr} {ees : List E} {pos p2 p3 : Pos} {σ : St} {H : Hp} {L : Lx} {r : Rho} {x : Ex}

theorem se_biB (C : Cok X G ck k Wx) {f : Bi} {id : String} (hc : CallR X (.builtin id) (rC G (biW f))) (hv : bootBuiltins (biName f) = some (.builtin id)) (hg : globB ck (biName f) = true) (hm : G.mg (biName f) = none) (hst : es.all notStar = true) (hne : es ≠ []) (h : PA X es (tA G Wx ees)) :
    PE X (.Call (.Name (biName f) p2) es [] pos) (tE G Wx (.bi f ees)) := by
  obtain ⟨g1, g2, g3⟩ := gl_of C hg
  cases es with
  | nil => exact absurd rfl hne
  | cons e1 es =>
    simp only [List.all_cons, Bool.and_eq_true] at hst
    refine PE.imp (pe_callB hc g1 (by rw [← C.hmg]; exact hm) hv h g3 g2 (star_cons hst.1 _) (stars_of hst.2)) fun σ H Qv ⟨r, L, Q, x, rl, re, w, xq, kq⟩ => ?_
    unfold W at w
    exact all_tA rl re xq w fun vs ds L1 H1 e1 r1 _ _ rv f => ⟨ds, L1, Q, r1, rv, f, fun v H' q => kq _ _ (KQ.back e1 q)⟩
theorem se_biT (C : Cok X G ck k Wx) {f : Bi} {id : String} (hc : CallR X (.type id) (rC G (biW f))) (hv : bootBuiltins (biName f) = some (.type id)) (hg : globB ck (biName f) = true) (hm : G.mg (biName f) = none) (hst : es.all notStar = true) (hne : es ≠ []) (h : PA X es (tA G Wx ees)) :
    PE X (.Call (.Name (biName f) p2) es [] pos) (tE G Wx (.bi f ees)) := by
  obtain ⟨g1, g2, g3⟩ := gl_of C hg
  cases es with
  | nil => exact absurd rfl hne
  | cons e1 es =>
    simp only [List.all_cons, Bool.and_eq_true] at hst
    refine PE.imp (pe_callTy hc g1 (by rw [← C.hmg]; exact hm) hv h g3 g2 (star_cons hst.1 _) (stars_of hst.2)) fun σ H Qv ⟨r, L, Q, x, rl, re, w, xq, kq⟩ => ?_
    unfold W at w
    exact all_tA rl re xq w fun vs ds L1 H1 e1 r1 _ _ rv f => ⟨ds, L1, Q, r1, rv, f, fun v H' q => kq _ _ (KQ.back e1 q)⟩
theorem se_is (C : Cok X G ck k Wx) {f : Bi} {T : Str} {Tn : String} (hT : bootBuiltins T = some (.type Tn)) (hf : biName f = "isinstance") (hw : ∀ {d L Q}, biW f [d] L Q → isW Tn d L Q) (hg : globB ck "isinstance" = true) (hgT : globB ck T = true) (hm : G.mg "isinstance" = none) (hmT : G.mg T = none) (hst : notStar a = true)
    (h : PE X a (tE G Wx ea)) : PE X (.Call (.Name "isinstance" p2) [a, .Name T p3] [] pos) (tE G Wx (.bi f [ea])) := by
  obtain ⟨g1, g2, g3⟩ := gl_of C hg
  obtain ⟨t1, t2, t3⟩ := gl_of C hgT
  refine ⟨fun pins s σ H Qv I ⟨r, L, Q, x, rl, re, w, xq, kq⟩ => ?_⟩
  unfold W at w
  unfold WA at w
  refine wpAny_Call_Name_kw (ld_blt I g1 (by rw [← C.hmg]; exact hm) bt_isi ?_ g3 g2)
  have hb : PE X (.Name T p3) (tC (.ty Tn)) := pe_bltn t1 (by rw [← C.hmg]; exact hmT) hT rfl t3 t2
  have hA : PA X [a, .Name T p3] (tCons (tE G Wx ea) (tCons (tC (.ty Tn)) tNil)) := pa_cons h (pa_cons hb pa_nil) (star_cons hst _)
  refine PyProof.Rows.callWith_builtin1 (thn (hA.run pos pins s σ H (fun vs H1 => ∃ v, vs = [v, .ty Tn] ∧ KQ G L H (fun d L1 => biW f [d] L1 Q) v H1) I ?_) fun us s1 ⟨vs, H1, I1, r1, v, ev, d, L1, e1, rl1, rv, w1⟩ => ?_) (star_cons hst _) rfl
  · exact one_tE rl re xq w fun v d L1 H1 e1 r1 re1 xq1 rv f => ⟨v, rfl, d, L1, e1, r1, rv, by unfold WA at f; exact f⟩
  · subst ev
    exact is_D C.hK I1 r1 rl1 rv (hw w1) fun v H' q => kq _ _ (KQ.back e1 q)

/-! ### methods of built-in types -/
theorem few_of : ∀ {es : List Expr}, es.all notStar = true → ∀ {p : Pos} {env : Env}, (backTo p (starEach es env)).all (fun x => !x.1) = true
  | [], _, _, _ => rfl
  | a :: es, h, p, env => by
    simp only [List.all_cons, Bool.and_eq_true] at h
    rw [star_cons h.1]
    have ih := few_of h.2 (p := p) (env := env)
    unfold backTo at ih ⊢
    simpa using ih
theorem base_of {n : Str} {env : Env} (h : plainBase a = true) : attributeBase a n env (eval a env) = eval a env := by
  cases a <;> first | rfl | (simp [plainBase] at h)
theorem se_append (C : Cok X G ck k Wx) {ap : Pos} (hst : es.all notStar = true) (hl : 0 < es.length) (hl2 : es.length < 20) (hb : plainBase a = true) (hp : (ap.endLine == pos.line) = true) (ha : PE X a (tE G Wx ea)) (h : PA X es (tA G Wx ees)) :
    PE X (.Call (.Attribute a "append" ap) es [] pos) (tE G Wx (.me .append ea ees)) := by
  cases es with
  | nil => simp at hl
  | cons e1 es =>
    have hst' := hst
    simp only [List.all_cons, Bool.and_eq_true] at hst'
    refine PE.imp (pe_bm PySem.F.plainAttrs_list PySem.F.slot_list_append PySem.F.type_list_append (append_D (G := G)) ha h (base_of hb) ?_ hp (star_cons hst'.1 _) (stars_of hst'.2)) fun σ H Qv ⟨r, L, Q, x, rl, re, w, xq, kq⟩ => ?_
    · rw [few_of hst]
      simp only [List.length_cons] at hl2
      simp [keywordEach, backToKw]
      omega
    · unfold W at w
      refine one_tE rl re xq w fun v d L1 H1 e1 r1 re1 xq1 rv ⟨ht, f⟩ => ⟨?_, all_tA r1 re1 xq1 f fun vs ds L2 H2 e2 r2 _ _ rvs g => ⟨d, ds, L2, Q, r2, rv.ext r1 e2, rvs, g, fun v H' q => kq _ _ (KQ.back (e1.trans e2) q)⟩⟩
      unfold meT at ht
      split at ht
      · cases rv
        obtain ⟨l, hl⟩ := ht
        obtain ⟨zs, h1, r2⟩ := Lst.at r1 hl
        exact .inl ⟨rfl, _, SqL.of h1⟩
      · exact ht.elim

/-! ### targets -/
theorem st_of (C : Cok X G ck k Wx) {y : Str} (h : stB ck y = true) : L2.Loc X.env.scope y ∧ (X.fn y = true ∨ X.env.scope.names.lookup y = some .local) := by
  unfold L2.Loc; rw [C.hsc]
  unfold stB at h
  split at h
  · exact ⟨.inl (by assumption), .inr (by assumption)⟩
  · exact ⟨.inr (by assumption), .inl (C.fn (by simpa using h) y)⟩
  · cases h
theorem eachT : ∀ {ts : List T} {es : List Expr} {env : Env}, okTs ck ts es = true → (assignEach es env).length = ts.length ∧ (assignEach es env).findIdx? (·.1) = none
  | [], es, env, h => by
    cases es with
    | nil => exact ⟨rfl, rfl⟩
    | cons a b => simp [okTs] at h
  | t :: ts, es, env, h => by
    cases es with
    | nil => simp [okTs] at h
    | cons a b =>
      unfold okTs at h
      simp only [Bool.and_eq_true] at h
      obtain ⟨i1, i2⟩ := eachT (env := env) h.2
      have e : assignEach (a :: b) env = (false, assign a env) :: assignEach b env := by
        cases t <;> cases a <;> first | rfl | (simp [okT] at h)
      rw [e]
      exact ⟨by simp [i1], by simp [List.findIdx?_cons, i2]⟩
theorem consT {t : T} (h : okT ck t a = true) {env : Env} : (assignEach (a :: es) env).map (·.2) = assign a env :: (assignEach es env).map (·.2) := by
  cases t <;> cases a <;> first | rfl | (simp [okT] at h)
mutual
theorem sg_T (C : Cok X G ck k Wx) : ∀ (t : T) {a : Expr}, okT ck t a = true → PG X a (gT G t)
  | .n i, a, h => by
    cases a <;> unfold okT at h <;> simp only [Bool.false_eq_true] at h
    simp only [Bool.and_eq_true, atB, decide_eq_true_eq] at h
    obtain ⟨s1, s2⟩ := st_of C h.2
    have hg := pg_name (pos := by assumption) C.nd (by rw [C.hN]; exact h.1) s1 s2
    refine ⟨fun pins s σ H v u Qs I ru ⟨d, r, L, Q, rl, re, rv, w, kq⟩ => hg.run pins s σ H v u Qs I ru ?_⟩
    unfold WT at w
    exact kq _ _ (re.set rv) ⟨by simp, fun j hj => List.getElem?_set_ne (fun z => hj (by simp [tslB, z]))⟩ w
  | .tu ts, a, h => by
    cases a <;> unfold okT at h <;> simp only [Bool.false_eq_true] at h
    have hg := sg_Ts C ts h
    have e := eachT (env := X.env) h
    have hg' := pg_tup (pos := by assumption) (k := by assumption) C.calm hg e.1 e.2
    refine ⟨fun pins s σ H v u Qs I ru ⟨d, r, L, Q, rl, re, rv, w, kq⟩ => hg'.run pins s σ H v u Qs I ru ?_⟩
    unfold WT at w
    split at w
    · cases rv with
      | tup h1 r1 =>
        refine ⟨_, _, rfl, h1.sq C.hK, ?_, _, r, L, Q, rl, re, r1, w.2, fun r' σ' a b c => kq r' σ' a (by unfold tsl tslB; exact b) c⟩
        rw [← r1.length]
        exact w.1
    · exact w.elim
theorem sg_Ts (C : Cok X G ck k Wx) : ∀ (ts : List T) {es : List Expr}, okTs ck ts es = true → PGs X es (gTs G ts)
  | [], es, h => by
    cases es with
    | cons a b => simp [okTs] at h
    | nil =>
      refine ⟨fun pins s σ H vs us Qs I ru ⟨ds, r, L, Q, rl, re, rv, w, kq⟩ => pgs_nil.run pins s σ H vs us Qs I ru ?_⟩
      unfold WTs at w
      split at w
      · cases rv
        exact ⟨rfl, kq _ _ re ⟨rfl, fun _ _ => rfl⟩ w⟩
      · exact w.elim
  | t :: ts, es, h => by
    cases es with
    | nil => simp [okTs] at h
    | cons a b =>
      unfold okTs at h
      simp only [Bool.and_eq_true] at h
      have h1 := sg_T C t h.1
      have h2 := sg_Ts C ts h.2
      have hg := pgs_cons h1 h2 (consT h.1)
      refine ⟨fun pins s σ H vs us Qs I ru ⟨ds, r, L, Q, rl, re, rv, w, kq⟩ => hg.run pins s σ H vs us Qs I ru ?_⟩
      unfold WTs at w
      split at w
      · cases rv with
        | cons r1 r2 =>
          refine ⟨_, _, rfl, _, r, L, _, rl, re, r1, w, fun r' σ' re' si q => ?_⟩
          exact ⟨_, r', L, Q, rl, re', r2, q, fun r2 σ2 re2 si2 q2 => kq r2 σ2 re2 ⟨si2.1.trans si.1, fun i hi => by
            simp only [tsls, tslsB, List.mem_append, not_or] at hi
            exact (si2.2 i hi.2).trans (si.2 i hi.1)⟩ q2⟩
      · exact w.elim
end
end
end Lg

set_option Elab.async false
set_option linter.all false
set_option maxRecDepth 100000
namespace Lg
open PySem L2
theorem bt_range : bootBuiltins "range" = some (.type "range") := by decide +kernel
section
variable {X : Cx} {G : Gx} {ck : Ck} {k : Nat} {Wx : WX} {tg a b c : Expr} {ea eb ec : E} {ba bb : B} {es rest : List Expr} {ees : List E} {pos p2 p3 : Pos} {σ : St} {H : Hp} {L : Lx} {r : Rho} {x : Ex}

/-! ### what is walked -/
theorem it_tup (hK : G.K = X.K) {p : Addr} {l : List D} {vs : List V} (rl : RL G L H) (h : TupAt G L.F H p vs) (rv : RVs G L.F H l vs) : ItOk G L H l (fun _ => True) (Itt X.K p) := by
  intro L2 H2 e r2 _
  have h2 := (h.keep (e.kp rl)).sq hK
  have rv2 := rv.ext rl e
  refine ⟨fun i hi => ⟨⟨vs, vs[i]'(by rw [← rv.length]; exact hi), h2, by simp⟩, fun y H3 hy => ?_⟩, fun i hi => ⟨vs, h2, by rw [← rv.length]; exact hi⟩⟩
  obtain ⟨rfl, hy⟩ := hy
  obtain ⟨d, e1, r1⟩ := rv2.getV (hy vs h2)
  exact ⟨d, L2, e1, rfl, Ext.refl, r2, r1⟩
theorem it_lsq {p : Addr} {l : List D} {vs : List V} {stay : Led → Prop} (h : ∀ L2 H2, Ext L H L2 H2 → RL G L2 H2 → stay L2.u → ∃ vs, SqL X.K H2 p vs ∧ RVs G L2.F H2 l vs) : ItOk G L H l stay (Itl X.K p) := by
  intro L2 H2 e r2 st
  obtain ⟨vs, h2, rv2⟩ := h L2 H2 e r2 st
  refine ⟨fun i hi => ⟨⟨vs, vs[i]'(by rw [← rv2.length]; exact hi), h2, by simp⟩, fun y H3 hy => ?_⟩, fun i hi => ⟨vs, h2, by rw [← rv2.length]; exact hi⟩⟩
  obtain ⟨rfl, hy⟩ := hy
  obtain ⟨d, e1, r1⟩ := rv2.getV (hy vs h2)
  exact ⟨d, L2, e1, rfl, Ext.refl, r2, r1⟩
theorem it_lsc (hK : G.K = X.K) {p : Addr} {l : List D} {vs : List V} (rl : RL G L H) (h : LscAt G L.F H p vs) (rv : RVs G L.F H l vs) : ItOk G L H l (fun _ => True) (Itl X.K p) :=
  it_lsq (vs := vs) fun L2 H2 e r2 _ => ⟨vs, (h.keep (e.kp rl)).sq hK, rv.ext rl e⟩
theorem it_fz {p : Addr} {l : List D} (rl : RL G L H) (hp : L.F p) (h : RO G L.F H p (.lst l)) : ItOk G L H l (fun _ => True) (Itl X.K p) :=
  it_lsq (vs := []) fun L2 H2 e r2 _ => by
    have k := e.kp rl
    cases h.keep k (k p hp).2 with
    | lst h r => exact ⟨_, SqL.of h, r⟩
theorem it_lst {p : Addr} {l : List D} : ItOk G L H l (fun L' => L' p = some (.lst l)) (Itl X.K p) :=
  it_lsq (vs := []) fun L2 H2 e r2 hs => by
    obtain ⟨vs, h1, rv2⟩ := Lst.at r2 hs
    exact ⟨vs, SqL.of h1, rv2⟩
theorem it_rng {lo : Int} {n : Nat} : ItOk G L H ((List.range n).map fun (k : Nat) => D.int (lo + (k : Int))) (fun _ => True) (Itr lo n) := by
  intro L2 H2 e r2 _
  refine ⟨fun i hi => ?_, fun i hi => ?_⟩
  · simp only [List.length_map, List.length_range] at hi
    refine ⟨hi, fun y H3 hy => ?_⟩
    obtain ⟨rfl, rfl⟩ := hy
    exact ⟨.int (lo + i), L2, by simp [hi], rfl, Ext.refl, r2, .int _⟩
  · simp only [List.length_map, List.length_range] at hi
    exact hi
/-- a list, a tuple that has come, walked -/
theorem iter_list {pins : List (Addr × Obj)} {s : Shared} {R : It → Hp → Prop} {p : Addr} {xs : List V} (I : Inv X pins σ H s) (hq : SqL X.K H p xs) (q : R (Itl X.K p) H) : wpAny (model X.prog X.w) X.A (pyIter (.ref p)) (PIE X pins σ tg R) X.xe s := by
  obtain ⟨its, rv, pl, hz⟩ := I.list hq
  refine wpAny_pyIter_list pl.isList ?_
  refine ⟨s.heap.objs.size, [s.heap.objs.size], _, _, H, rfl, I.kept (t' := s.toks) fun b o e => Heap.get?_push_of_some _ e, turn_list p _, ⟨_, Heap.get?_push_size _ rfl, rfl, rfl⟩, fun b hb => ?_, q⟩
  have e : b = s.heap.objs.size := by simpa using hb
  subst e
  exact I.fpOk (Nat.le_refl _) (I.hok.fresh (Nat.le_refl _))
theorem iter_tup {pins : List (Addr × Obj)} {s : Shared} {R : It → Hp → Prop} {p : Addr} {xs : List V} (I : Inv X pins σ H s) (hq : SqT X.K H p xs) (q : R (Itt X.K p) H) : wpAny (model X.prog X.w) X.A (pyIter (.ref p)) (PIE X pins σ tg R) X.xe s := by
  obtain ⟨its, rv, pl, hz⟩ := I.tuple hq
  refine wpAny_pyIter_tuple (show s.heap.IsTuple p its.toArray from pl) ?_
  refine ⟨s.heap.objs.size, [s.heap.objs.size], _, _, H, rfl, I.kept (t' := s.toks) fun b o e => Heap.get?_push_of_some _ e, turn_tuple p _, ⟨_, Heap.get?_push_size _ rfl, rfl, rfl⟩, fun b hb => ?_, q⟩
  have e : b = s.heap.objs.size := by simpa using hb
  subst e
  exact I.fpOk (Nat.le_refl _) (I.hok.fresh (Nat.le_refl _))
theorem si_seq (C : Cok X G ck k Wx) (ha : PE X a (tE G Wx ea)) : PI X tg a (tI G Wx (.seq ea)) := by
  refine ⟨fun pins s σ H R I ⟨r, L, Q, x, rl, re, w, xq, kq⟩ => ?_⟩
  unfold WI at w
  refine thn (ha.run pins s σ H (KQ G L H _) I ⟨r, L, _, x, rl, re, w, xq, fun _ _ q => q⟩) fun v s1 ⟨y, H1, I1, ry, d, L1, e1, r1, rv, w1⟩ => ?_
  dsimp only at w1
  split at w1
  · cases rv with
    | tup h1 rr =>
      cases ry
      exact iter_tup I1 (h1.sq C.hK) (kq _ _ L1 _ H1 e1 r1 (it_tup C.hK r1 h1 rr) w1)
  · cases rv with
    | scr h1 rr =>
      cases ry
      exact iter_list I1 (h1.sq C.hK) (kq _ _ L1 _ H1 e1 r1 (it_lsc C.hK r1 h1 rr) w1)
  · cases rv with
    | fz hf ro =>
      cases ry
      have ro' := ro
      cases ro with
      | lst h1 rr => exact iter_list I1 (SqL.of h1) (kq _ _ L1 _ H1 e1 r1 (it_fz r1 hf ro') w1)
  · cases rv
    cases ry
    obtain ⟨l, hl, w1⟩ := w1
    obtain ⟨zs, h1, r2⟩ := Lst.at r1 hl
    exact iter_list I1 (SqL.of h1) (kq _ _ L1 _ H1 e1 r1 it_lst w1)
  · exact w1.elim
theorem si_r1 (C : Cok X G ck k Wx) (hg : globB ck "range" = true) (hm : G.mg "range" = none) (hs : notStar a = true) (ha : PE X a (tE G Wx ea)) : PI X tg (.Call (.Name "range" p2) [a] [] pos) (tI G Wx (.r1 ea)) := by
  obtain ⟨g1, g2, g3⟩ := gl_of C hg
  refine PI.imp (pi_range1 g1 (by rw [← C.hmg]; exact hm) (pa_cons ha pa_nil (star_cons hs _)) (star_cons hs _)) fun σ H R ⟨r, L, Q, x, rl, re, w, xq, kq⟩ => ?_
  unfold WI at w
  refine one_tE rl re xq w fun v d L1 H1 e1 r1 re1 xq1 rv f => ?_
  cases rv <;> first
    | exact f.elim
    | (refine ⟨_, rfl, f.1.1, f.1.2, kq _ _ L1 _ H1 e1 r1 it_rng ?_⟩
       simpa using f.2)
theorem si_r2 (C : Cok X G ck k Wx) (hg : globB ck "range" = true) (hm : G.mg "range" = none) (hs : notStar a = true) (hs2 : notStar b = true) (ha : PE X a (tE G Wx ea)) (hb : PE X b (tE G Wx eb)) : PI X tg (.Call (.Name "range" p2) [a, b] [] pos) (tI G Wx (.r2 ea eb)) := by
  obtain ⟨g1, g2, g3⟩ := gl_of C hg
  refine PI.imp (pi_range2 g1 (by rw [← C.hmg]; exact hm) (pa_cons ha (pa_cons hb pa_nil (star_cons hs2 _)) (star_cons hs _)) (by rw [star_cons hs, star_cons hs2]; rfl) (star_cons hs2 _)) fun σ H R ⟨r, L, Q, x, rl, re, w, xq, kq⟩ => ?_
  unfold WI at w
  refine two_tE rl re xq w fun v u d e L2 H2 e2 r2 re2 xq2 rv ru f => ?_
  split at f
  · cases rv; cases ru
    exact ⟨_, _, rfl, ⟨f.1.1.1, f.1.1.2, f.1.2.1, f.1.2.2⟩, kq _ _ L2 _ H2 e2 r2 it_rng f.2⟩
  · exact f.elim

/-! ### comprehensions -/
theorem wipe_get (σ : St) (i : Nat) : ∀ vs : List Nat, (wipe σ vs)[i]? = if i ∈ vs ∧ i < σ.length then some none else σ[i]?
  | [] => by simp [wipe]
  | v :: vs => by
    unfold wipe
    by_cases h : v = i
    · subst h
      by_cases hl : v < σ.length
      · rw [List.getElem?_set_self (by rw [wipe_length]; exact hl)]; simp [hl]
      · rw [List.getElem?_eq_none (by simpa [wipe_length] using hl)]
        simp [hl]
    · rw [List.getElem?_set_ne h, wipe_get σ i vs]
      simp [Ne.symm h]
theorem wipe_same {σ σ2 : St} {vs ns : List Nat} (h : SetIn ns (wipe σ vs) σ2) (hn : ∀ i ∈ ns, i ∈ vs) : wipe σ2 vs = wipe σ vs := by
  have hl : σ2.length = σ.length := h.1.trans (wipe_length _ _)
  refine List.ext_getElem? fun i => ?_
  rw [wipe_get, wipe_get]
  by_cases hi : i ∈ vs ∧ i < σ.length
  · rw [if_pos hi, if_pos (by rw [hl]; exact hi)]
  · rw [if_neg hi, if_neg (by rw [hl]; exact hi)]
    by_cases hv : i ∈ vs
    · have : ¬ i < σ.length := fun z => hi ⟨hv, z⟩
      rw [List.getElem?_eq_none (by rw [hl]; omega), List.getElem?_eq_none (by omega)]
    · rw [h.2 i (fun z => hv (hn i z)), wipe_get, if_neg (fun z => hv z.1)]
def wipeR (r : Rho) (own : List (Str × Nat)) : Rho := own.foldr (fun p q => q.set p.2 none) r
theorem RE.wipe {F : Addr → Prop} (h : RE G F H r σ) : ∀ own : List (Str × Nat), RE G F H (wipeR r own) (L2.wipe σ (own.map (·.2)))
  | [] => h
  | p :: own => by
    have ih := RE.wipe h own
    show RE G F H ((wipeR r own).set p.2 none) ((L2.wipe σ (own.map (·.2))).set p.2 none)
    refine ⟨by simp [ih.1], fun j e q => ?_⟩
    by_cases z : p.2 = j
    · subst z
      by_cases hi : p.2 < (wipeR r own).length
      · rw [List.getElem?_set_self hi] at q; cases q
      · rw [List.getElem?_eq_none (by simpa using hi)] at q; cases q
    · rw [List.getElem?_set_ne z] at q ⊢
      exact ih.2 j e q
/-- a tracked list that is neither of the ledger nor written no more -/
structure Loose (L : Lx) (H : Hp) (p : Addr) (vs : List V) : Prop where
  at_ : H p = some (.lst vs)
  u : L.u p = none
  f : ¬ L.F p
theorem Loose.ext {L L' : Lx} {H H' : Hp} {p : Addr} {vs : List V} (h : Loose L H p vs) (e : Ext L H L' H') : Loose L' H' p vs where
  at_ := e.keep _ _ h.at_ h.u fun _ z => nomatch z
  u := e.off h.at_ h.u
  f := fun z => by
    rcases e.newF p z with z | z | z | ⟨y, z⟩
    · exact h.f z
    · exact z h.u
    · rw [h.at_] at z; cases z
    · rw [h.at_] at z; cases z
abbrev W0 : WX := fun _ _ _ _ => False
theorem XQ.no : XQ G W0 σ L H (fun _ _ _ => False) := fun _ _ _ _ _ _ _ _ _ h => h
theorem se_lc (C : Cok X G ck k Wx) {t : T} {it : I} {bs : List B} {own : List (Str × Nat)} {scope : Scope} {elt iter : Expr} {ifs : List Expr} (hi : PI X tg iter (tI G Wx it)) (hn : notSet iter = true) (hb : blkC ck.N ck.sc scope own = true) (hs : (tslB t).all (fun i => decide (i ∈ own.map (·.2))) = true)
    (hg : ∀ (s : Shared) (H : Hp) (Cc : Addr) (cl : List (Str × Addr)) (fp : List Addr), PG (X.blk s H scope (compEnvC scope cl Cc X.env) fp) tg (gT G t))
    (ht : ∀ (s : Shared) (H : Hp) (Cc : Addr) (cl : List (Str × Addr)) (fp : List Addr), PTs (X.blk s H scope (compEnvC scope cl Cc X.env) fp) ifs (tTsts G W0 bs))
    (he : ∀ (s : Shared) (H : Hp) (Cc : Addr) (cl : List (Str × Addr)) (fp : List Addr), PE (X.blk s H scope (compEnvC scope cl Cc X.env) fp) elt (tE G W0 ea)) :
    ∀ σ H Qv, tE G Wx (.lc ea t it bs own) σ H Qv → tLc (tI G Wx it) (gT G t) (tTsts G W0 bs) (tE G W0 ea) (own.map (·.2)) σ H Qv := by
  intro σ H Qv ⟨r, L, Q, x, rl, re, w, xq, kq⟩
  unfold W at w
  refine ⟨r, L, _, x, rl, re, w, xq, fun xs stay L1 J H1 e1 r1 ok ⟨hxs, Iv, i0, st⟩ Dd hD => ?_⟩
  have hD1 : L1.u Dd = none := r1.free hD
  have hDf : ¬ L1.F Dd := r1.freeF hD
  have e00 : Ext L1 H1 L1 (upd H1 Dd (.lst [])) := ⟨fun b o h _ _ => by rw [upd_ne (ne_of_none h hD)]; exact h, fun b h => by
    by_cases z : b = Dd
    · subst z; exact hD
    · rw [upd_ne z] at h; exact h, fun _ h => h, fun _ h => .inl h, fun _ h => .inl h⟩
  refine ⟨fun i m H' => m = xs.length - i ∧ i ≤ xs.length ∧ ∃ acc avs L', acc.length ≤ i ∧ Ext L1 H1 L' H' ∧ RL G L' H' ∧ Iv i acc L'.u ∧ Loose L' H' Dd avs ∧ RVs G L'.F H' acc avs,
    ⟨xs.length, by simp, Nat.zero_le _, [], [], L1, by simp, e00, r1.poke hD1 hDf, i0, ⟨upd_same, hD1, hDf⟩, .nil⟩, ?_⟩
  rintro i m H' ⟨rfl, hi', acc, avs, L', ha, e2, r2, iv, lo, ra⟩
  obtain ⟨hst, step, fin⟩ := st i acc L'.u hi' iv
  have ok2 := ok L' H' e2 r2 hst
  by_cases hlt : i < xs.length
  · refine .inr ⟨(ok2.1 i hlt).1, fun H4 => ∃ acc avs L4, acc.length ≤ i + 1 ∧ Ext L1 H1 L4 H4 ∧ RL G L4 H4 ∧ Iv (i + 1) acc L4.u ∧ Loose L4 H4 Dd avs ∧ RVs G L4.F H4 acc avs, fun H4 q => ⟨xs.length - (i + 1), by omega, rfl, by omega, q⟩, fun y H3 hy => ?_⟩
    obtain ⟨d, L3, ed, eu, e3, r3, rv3⟩ := (ok2.1 i hlt).2 y H3 hy
    have re3 := (((re.ext rl e1).ext r1 e2).ext r2 e3).wipe own
    refine ⟨d, wipeR r own, L3, _, r3, re3, rv3, step d ed, fun r' σ' re' si q => ⟨wipe_same si fun j hj => ?_, ?_⟩⟩
    · have := List.all_eq_true.mp hs j hj
      simpa using this
    · rw [← eu] at q
      refine ⟨r', L3, _, _, r3, re', q, XQ.no, fun b H4 ⟨L4, e4, r4, q4⟩ => ?_⟩
      have lo4 := (lo.ext e3).ext e4
      have ra4 := (ra.ext r2 e3).ext r3 e4
      cases b with
      | false =>
        replace q4 := q4.2 rfl
        simp only [Bool.false_eq_true, if_false]
        obtain ⟨L5, sb, iv5⟩ := q4
        exact ⟨acc, avs, ⟨L5, L4.F⟩, by omega, ((e2.trans e3).trans e4).forget sb, r4.forget sb, iv5, ⟨lo4.at_, sb.off lo4.u, lo4.f⟩, ra4⟩
      | true =>
        replace q4 := q4.1 rfl
        simp only [if_true]
        refine ⟨r', L4, _, _, r4, re'.ext r3 e4, q4, XQ.no, fun z H5 ⟨dz, L5, e5, r5, rz, dz', M6, vg, iv6⟩ => ?_⟩
        obtain ⟨L6, eu6, e6, r6, rz6⟩ := vg.val rfl r5 rz
        subst eu6
        have lo6 := (lo4.ext e5).ext e6
        have ra6 := (ra4.ext r4 e5).ext r5 e6
        have hz : avs.length < sizeLine := by
          rw [← ra6.length, ← line_eq]
          omega
        have e16 := (((e2.trans e3).trans e4).trans e5).trans e6
        have kp : Keep L6.F H5 L6.F (upd H5 Dd (.lst (avs ++ [z]))) := Keep.poke lo6.f
        refine ⟨avs, lo6.at_, hz, acc ++ [dz'], avs ++ [z], L6, by simp; omega, ⟨fun b o hb nb yb => ?_, fun b hb => ?_, e16.fz, e16.new, e16.newF⟩, r6.poke lo6.u lo6.f, iv6, ⟨upd_same, lo6.u, lo6.f⟩, (ra6.append (.cons rz6 .nil)).keep kp⟩
        · rw [upd_ne (fun z => by subst z; rw [hD] at hb; cases hb)]
          exact e16.keep b o hb nb yb
        · by_cases z : b = Dd
          · subst z; exact hD
          · rw [upd_ne z] at hb; exact e16.trk b hb
  · have ei : i = xs.length := by omega
    refine .inl ⟨ok2.2 i (by omega), kq _ _ ?_⟩
    have e12 := e1.trans e2
    have hDH : H Dd = none := e1.trk Dd hD
    obtain ⟨_, nw⟩ := fin ei
    rcases nw with nw | nw
    · refine ⟨.fz (.lst acc), L'.fz Dd, ⟨e12.keep, e12.trk, fun b h => .inl (e12.fz b h), e12.new, fun b h => ?_⟩, r2.adoptF lo.u lo.at_ (fun _ z => nomatch z), .fz (.inr rfl) (.lst lo.at_ (ra.keep (Keep.more fun _ h => .inl h))), nw⟩
      rcases h with h | h
      · exact e12.newF b h
      · subst h; exact .inr (.inr (.inl hDH))
    · refine ⟨.ref Dd, L'.up Dd (.lst acc), ⟨e12.keep, e12.trk, e12.fz, fun b hb => ?_, e12.newF⟩, r2.adopt lo.f (.lst lo.at_ ra), .ref Dd, nw Dd lo.u⟩
      by_cases z : b = Dd
      · subst z; exact .inr hDH
      · rw [Lx.up_u, up_ne z] at hb; exact e12.new b hb
end
end Lg

set_option Elab.async false
set_option linter.all false
set_option maxRecDepth 100000
namespace Lg
open PySem L2
theorem okE_star {e : E} {ck : Ck} {a : Expr} (h : okE e ck a = true) : notStar a = true := by
  cases a <;> first | rfl | (cases e <;> simp [okE] at h)
theorem okA_star : ∀ {es : List E} {ck : Ck} {as : List Expr}, okA es ck as = true → as.all notStar = true
  | [], _, as, h => by
    cases as with
    | nil => rfl
    | cons a b => simp [okA] at h
  | e :: es, ck, as, h => by
    cases as with
    | nil => rfl
    | cons a b =>
      unfold okA at h
      simp only [Bool.and_eq_true] at h
      simp only [List.all_cons, Bool.and_eq_true]
      exact ⟨okE_star h.1, okA_star h.2⟩
section
variable {X : Cx} {G : Gx} {ck : Ck} {k : Nat} {Wx : WX}
theorem Cok.blk (C : Cok X G ck k Wx) {s : Shared} {H : Hp} {scope : Scope} {Cc : Addr} {cl : List (Str × Addr)} {fp : List Addr} : Cok (X.blk s H scope (compEnvC scope cl Cc X.env) fp) G ⟨ck.N, relS scope ck.sc, true⟩ k W0 where
  hK := C.hK
  hmg := C.hmg
  hN := C.hN
  hsc := by rw [← C.hsc]; rfl
  calm := C.calm
  nd := C.nd
  room := C.room
  tk := fun u s' ⟨_, _, _, _, _, _, _, _, _, _, _, _, _, _, _, _, h⟩ => h
  own := PassesOwn.never
  fn := fun h => nomatch h
end
theorem bool_and1 {a b : Bool} (h : (a && b) = true) : a = true := (Bool.and_eq_true_iff.mp h).1
theorem bool_and2 {a b : Bool} (h : (a && b) = true) : b = true := (Bool.and_eq_true_iff.mp h).2

mutual
theorem sE : ∀ (e : E) {X : Cx} {G : Gx} {ck : Ck} {k : Nat} {Wx : WX} {a : Expr}, Cok X G ck k Wx → okE e ck a = true → Oks (tbOf X.prog X.w G X.base k) e → PE X a (tE G Wx e)
  | .v i, X, G, ck, k, Wx, a, C, h, o => se_v C h
  | .c d, X, G, ck, k, Wx, a, C, h, o => se_c h
  | .g y d, X, G, ck, k, Wx, a, C, h, o => se_g C h o
  | .neg e, X, G, ck, k, Wx, a, C, h, o => by
    unfold okE at h
    split at h
    · unfold Oks at o
      exact se_neg (sE e C h o)
    · cases h
  | .bin p e f, X, G, ck, k, Wx, a, C, h, o => by
    unfold okE at h
    split at h
    · unfold Oks at o
      simp only [Bool.and_eq_true, decide_eq_true_eq] at h
      obtain ⟨⟨rfl, h1⟩, h2⟩ := h
      exact se_bin C (sE e C h1 o.1) (sE f C h2 o.2)
    · cases h
  | .cmp p e f, X, G, ck, k, Wx, a, C, h, o => by
    unfold okE at h
    split at h
    · split at h
      · unfold Oks at o
        simp only [Bool.and_eq_true, decide_eq_true_eq] at h
        obtain ⟨⟨⟨rfl, h1⟩, h2⟩, h3⟩ := h
        exact se_cmp C h3 (sE e C h1 o.1) (sE f C h2 o.2)
      · cases h
    · cases h
  | .chain p q e f g, X, G, ck, k, Wx, a, C, h, o => by
    unfold okE at h
    split at h
    · split at h
      · unfold Oks at o
        simp only [Bool.and_eq_true, decide_eq_true_eq] at h
        obtain ⟨⟨⟨⟨⟨rfl, rfl⟩, h1⟩, h2⟩, h3⟩, h4⟩ := h
        exact se_chain C h4 (sE e C h1 o.1) (sE f C h2 o.2.1) (sE g C h3 o.2.2)
      · cases h
    · cases h
  | .and e f, X, G, ck, k, Wx, a, C, h, o => by
    unfold okE at h
    split at h
    · unfold Oks at o
      simp only [Bool.and_eq_true] at h
      rename_i z y rest p
      refine se_and (sE e C h.1 o.1) ?_
      cases rest with
      | nil => exact pe_one (sE f C h.2 o.2)
      | cons u v => exact sE f C h.2 o.2
    · cases h
  | .or e f, X, G, ck, k, Wx, a, C, h, o => by
    unfold okE at h
    split at h
    · unfold Oks at o
      simp only [Bool.and_eq_true] at h
      rename_i z y rest p
      refine se_or (sE e C h.1 o.1) ?_
      cases rest with
      | nil => exact pe_one (sE f C h.2 o.2)
      | cons u v => exact sE f C h.2 o.2
    · cases h
  | .not e, X, G, ck, k, Wx, a, C, h, o => by
    unfold okE at h
    split at h
    · unfold Oks at o
      exact se_not (sE e C h o)
    · cases h
  | .ite t e f, X, G, ck, k, Wx, a, C, h, o => by
    unfold okE at h
    split at h
    · unfold Oks at o
      simp only [Bool.and_eq_true] at h
      exact se_ite (sB t C h.1.1 o.1) (sE e C h.1.2 o.2.1) (sE f C h.2 o.2.2)
    · cases h
  | .tup es, X, G, ck, k, Wx, a, C, h, o => by
    unfold okE at h
    split at h
    · unfold Oks at o
      exact se_tup (sA es C h o)
    · cases h
  | .lst es, X, G, ck, k, Wx, a, C, h, o => by
    unfold okE at h
    split at h
    · unfold Oks at o
      exact se_lst (sA es C h o)
    · cases h
  | .ix e f, X, G, ck, k, Wx, a, C, h, o => by
    unfold okE at h
    split at h
    · unfold Oks at o
      simp only [Bool.and_eq_true] at h
      exact se_ix C h.2 (sE e C h.1.1 o.1) (sE f C h.1.2 o.2)
    · cases h
  | .sl e lo hi, X, G, ck, k, Wx, a, C, h, o => by
    unfold okE at h
    split at h
    · unfold Oks at o
      simp only [Bool.and_eq_true] at h
      exact se_sl C (sE e C h.1.1 o.1) (sO lo C h.1.2 o.2.1) (sO hi C h.2 o.2.2)
    · cases h
  | .call f sp es, X, G, ck, k, Wx, a, C, h, o => by
    unfold okE at h
    split at h
    · unfold Oks at o
      simp only [Bool.and_eq_true, beq_iff_eq] at h
      obtain ⟨⟨rfl, h1⟩, h2⟩ := h
      exact se_call C o.1 h1 (okA_star h2) h2 (sA es C h2 o.2)
    · cases h
  | .bi f es, X, G, ck, k, Wx, a, C, h, o => by
    unfold okE at h
    split at h
    · unfold Oks at o
      simp only [Bool.and_eq_true, beq_iff_eq] at h
      obtain ⟨⟨rfl, h1⟩, h2⟩ := h
      have hm : G.mg (biName f) = none := o.1
      cases f with
      | len =>
        simp only [isTy, Bool.and_eq_true, Bool.not_eq_true', List.isEmpty_eq_false_iff] at h2
        exact se_biB C (len_D C.hK) bt_len h1 hm (okA_star h2.1) h2.2 (sA es C h2.1 o.2.2)
      | all =>
        simp only [isTy, Bool.and_eq_true, Bool.not_eq_true', List.isEmpty_eq_false_iff] at h2
        exact se_biB C (all_D C.hK C.calm) bt_all h1 hm (okA_star h2.1) h2.2 (sA es C h2.1 o.2.2)
      | max2 =>
        simp only [isTy, Bool.and_eq_true, Bool.not_eq_true', List.isEmpty_eq_false_iff] at h2
        exact se_biB C (max_D C.calm) bt_max h1 hm (okA_star h2.1) h2.2 (sA es C h2.1 o.2.2)
      | min2 =>
        simp only [isTy, Bool.and_eq_true, Bool.not_eq_true', List.isEmpty_eq_false_iff] at h2
        exact se_biB C (min_D C.calm) bt_min h1 hm (okA_star h2.1) h2.2 (sA es C h2.1 o.2.2)
      | sorted =>
        simp only [isTy, Bool.and_eq_true, Bool.not_eq_true', List.isEmpty_eq_false_iff] at h2
        exact se_biB C (sorted_D C.hK C.room) bt_sorted h1 hm (okA_star h2.1) h2.2 (sA es C h2.1 o.2.2)
      | int =>
        simp only [isTy, Bool.and_eq_true, Bool.not_eq_true', List.isEmpty_eq_false_iff] at h2
        exact se_biT C int_D bt_int h1 hm (okA_star h2.1) h2.2 (sA es C h2.1 o.2.2)
      | tuple =>
        simp only [isTy, Bool.and_eq_true, Bool.not_eq_true', List.isEmpty_eq_false_iff] at h2
        exact se_biT C (tuple_D C.hK) bt_tuple h1 hm (okA_star h2.1) h2.2 (sA es C h2.1 o.2.2)
      | list =>
        simp only [isTy, Bool.and_eq_true, Bool.not_eq_true', List.isEmpty_eq_false_iff] at h2
        exact se_biT C (list_D C.hK) bt_list h1 hm (okA_star h2.1) h2.2 (sA es C h2.1 o.2.2)
      | isInt =>
        simp only [isTy] at h2
        exact sIs es C bt_int rfl isInt_W h1 hm o.2.1 h2 o.2.2
      | isBool =>
        simp only [isTy] at h2
        exact sIs es C bt_bool rfl isBool_W h1 hm o.2.1 h2 o.2.2
      | isTuple =>
        simp only [isTy] at h2
        exact sIs es C bt_tuple rfl isTuple_W h1 hm o.2.1 h2 o.2.2
    · cases h
  | .me m e es, X, G, ck, k, Wx, a, C, h, o => by
    unfold okE at h
    split at h
    · unfold Oks at o
      simp only [Bool.and_eq_true, beq_iff_eq, decide_eq_true_eq] at h
      obtain ⟨⟨⟨⟨⟨⟨rfl, h1⟩, h2⟩, h3⟩, h4⟩, h5⟩, h6⟩ := h
      cases m with
      | append => exact se_append C (okA_star h2) h3 h4 h5 (by simpa using h6) (sE e C h1 o.1) (sA es C h2 o.2)
    · cases h
  | .lc e t it ifs own, X, G, ck, k, Wx, a, C, h, o => by
    unfold okE at h
    split at h
    · unfold Oks at o
      simp only [Bool.and_eq_true] at h
      obtain ⟨⟨⟨⟨⟨⟨h1, h2⟩, h3⟩, h4⟩, h5⟩, h6⟩, h7⟩ := h
      rename_i _ _ tg iter cs scope _
      have hi := sI (tg := tg) it C h3 o.2.1
      have hg := fun (s : Shared) (H : Hp) (Cc : Addr) (cl : List (Str × Addr)) (fp : List Addr) => sg_T (C.blk (s := s) (H := H) (scope := scope) (Cc := Cc) (cl := cl) (fp := fp)) t h5
      have ht := fun (s : Shared) (H : Hp) (Cc : Addr) (cl : List (Str × Addr)) (fp : List Addr) => sBs ifs (C.blk (s := s) (H := H) (scope := scope) (Cc := Cc) (cl := cl) (fp := fp)) h6 o.2.2
      have he := fun (s : Shared) (H : Hp) (Cc : Addr) (cl : List (Str × Addr)) (fp : List Addr) => sE e (C.blk (s := s) (H := H) (scope := scope) (Cc := Cc) (cl := cl) (fp := fp)) h7 o.1
      exact PE.imp (pe_lc C.calm C.nd hi (blkOk_by (by rw [C.hN, C.hsc]; exact h1)) hg ht he (by
        intro v
        cases iter <;> first | rfl | (simp [notSet] at h4))) (se_lc C hi h4 h1 h2 hg ht he)
    · cases h
theorem sIs : ∀ (es : List E) {X : Cx} {G : Gx} {ck : Ck} {k : Nat} {Wx : WX} {xs : List Expr} {f : Bi} {T : Str} {Tn : String} {p2 pos : Pos}, Cok X G ck k Wx → bootBuiltins T = some (.type Tn) → biName f = "isinstance" → (∀ {d L Q}, biW f [d] L Q → isW Tn d L Q) → globB ck (biName f) = true → G.mg (biName f) = none → G.mg T = none →
    (match es, xs with
        | [a], [y, z] => okE a ck y && isName T z && globB ck T
        | _, _ => false) = true → OksA (tbOf X.prog X.w G X.base k) es → PE X (.Call (.Name (biName f) p2) xs [] pos) (tE G Wx (.bi f es))
  | [], _, _, _, _, _, _, _, _, _, _, _, _, _, _, _, _, _, _, h, _ => nomatch h
  | [e], X, G, ck, k, Wx, xs, f, T, Tn, p2, pos, C, hT, hf, hw, hg, hm, hmT, h, o => by
    match xs, h with
    | [y, .Name u p], h =>
      simp only [Bool.and_eq_true] at h
      obtain ⟨⟨h1, h2⟩, h3⟩ := h
      unfold OksA at o
      rw [hf] at hg hm ⊢
      have e3 : u = T := eq_of_beq h2
      subst e3
      exact se_is C hT hf hw hg h3 hm hmT (okE_star h1) (sE e C h1 o.1)
    | [y, z], h =>
      simp only [Bool.and_eq_true] at h
      obtain ⟨⟨h1, h2⟩, h3⟩ := h
      unfold OksA at o
      rw [hf] at hg hm ⊢
      cases z with
      | Name u p =>
        have e3 : u = T := eq_of_beq h2
        subst e3
        exact se_is C hT hf hw hg h3 hm hmT (okE_star h1) (sE e C h1 o.1)
      | _ => exact nomatch h2
  | _ :: _ :: _, _, _, _, _, _, _, _, _, _, _, _, _, _, _, _, _, _, _, h, _ => nomatch h
theorem sO : ∀ (e : Option E) {X : Cx} {G : Gx} {ck : Ck} {k : Nat} {Wx : WX} {a : Option Expr}, Cok X G ck k Wx → okO e ck a = true → OksO (tbOf X.prog X.w G X.base k) e → PO X a (tOp' G Wx e)
  | none, X, G, ck, k, Wx, a, C, h, o => by
    cases a with
    | none => exact so_none
    | some a => simp [okO] at h
  | some e, X, G, ck, k, Wx, a, C, h, o => by
    cases a with
    | none => simp [okO] at h
    | some a =>
      unfold okO at h
      unfold OksO at o
      exact so_some (sE e C h o)
theorem sA : ∀ (es : List E) {X : Cx} {G : Gx} {ck : Ck} {k : Nat} {Wx : WX} {as : List Expr}, Cok X G ck k Wx → okA es ck as = true → OksA (tbOf X.prog X.w G X.base k) es → PA X as (tA G Wx es)
  | [], X, G, ck, k, Wx, as, C, h, o => by
    cases as with
    | nil => exact sa_nil
    | cons a b => simp [okA] at h
  | e :: es, X, G, ck, k, Wx, as, C, h, o => by
    cases as with
    | nil => simp [okA] at h
    | cons a b =>
      unfold okA at h
      unfold OksA at o
      simp only [Bool.and_eq_true] at h
      exact sa_cons (okE_star h.1) (sE e C h.1 o.1) (sA es C h.2 o.2)
theorem sB : ∀ (e : B) {X : Cx} {G : Gx} {ck : Ck} {k : Nat} {Wx : WX} {a : Expr}, Cok X G ck k Wx → okB e ck a = true → OksB (tbOf X.prog X.w G X.base k) e → PT X a (tTst G Wx e)
  | .and e f, X, G, ck, k, Wx, a, C, h, o => by
    unfold okB at h
    split at h
    · unfold OksB at o
      simp only [Bool.and_eq_true] at h
      rename_i z y rest p
      cases rest with
      | nil => exact (sb_and (sB e C h.1 o.1) (pw_and1 (sB f C h.2 o.2))).pt
      | cons u v =>
        refine (sb_and (sB e C h.1 o.1) ?_).pt
        have q := sB f C h.2 o.2
        exact ⟨fun wh pins s σ H Q I t => q.run pins s σ H Q I t⟩
    · cases h
  | .or e f, X, G, ck, k, Wx, a, C, h, o => by
    unfold okB at h
    split at h
    · unfold OksB at o
      simp only [Bool.and_eq_true] at h
      rename_i z y rest p
      cases rest with
      | nil => exact (sb_or (sB e C h.1 o.1) (pw_or1 (sB f C h.2 o.2))).pt
      | cons u v =>
        refine (sb_or (sB e C h.1 o.1) ?_).pt
        have q := sB f C h.2 o.2
        exact ⟨fun wh pins s σ H Q I t => q.run pins s σ H Q I t⟩
    · cases h
  | .not e, X, G, ck, k, Wx, a, C, h, o => by
    unfold okB at h
    split at h
    · unfold OksB at o
      exact sb_not (sB e C h o)
    · cases h
  | .e e, X, G, ck, k, Wx, a, C, h, o => by
    unfold okB at h
    unfold OksB at o
    simp only [Bool.and_eq_true] at h
    exact sb_e C h.2 (sE e C h.1 o)
  | .cmp p e f, X, G, ck, k, Wx, a, C, h, o => by
    unfold okB at h
    split at h
    · split at h
      · unfold OksB at o
        simp only [Bool.and_eq_true, decide_eq_true_eq] at h
        obtain ⟨⟨⟨rfl, h1⟩, h2⟩, h3⟩ := h
        exact sb_cmp C h3 (sE e C h1 o.1) (sE f C h2 o.2)
      · cases h
    · cases h
  | .chain p q e f g, X, G, ck, k, Wx, a, C, h, o => by
    unfold okB at h
    split at h
    · split at h
      · unfold OksB at o
        simp only [Bool.and_eq_true, decide_eq_true_eq] at h
        obtain ⟨⟨⟨⟨⟨rfl, rfl⟩, h1⟩, h2⟩, h3⟩, h4⟩ := h
        exact sb_chain C h4 (sE e C h1 o.1) (sE f C h2 o.2.1) (sE g C h3 o.2.2)
      · cases h
    · cases h
theorem sBs : ∀ (bs : List B) {X : Cx} {G : Gx} {ck : Ck} {k : Nat} {Wx : WX} {as : List Expr}, Cok X G ck k Wx → okBs bs ck as = true → OksBs (tbOf X.prog X.w G X.base k) bs → PTs X as (tTsts G Wx bs)
  | [], X, G, ck, k, Wx, as, C, h, o => by
    cases as with
    | cons a b => simp [okBs] at h
    | nil =>
      refine PTs.imp pts_nil fun σ H Qv ⟨r, L, Q, x, rl, re, w, xq, kq⟩ => ?_
      unfold WBs at w
      exact kq _ _ ⟨L, Ext.refl, rl, w⟩
  | b :: bs, X, G, ck, k, Wx, as, C, h, o => by
    unfold okBs at h
    split at h
    · simp only [Bool.and_eq_true] at h
      unfold OksBs at o
      cases bs with
      | cons u v => simp at h
      | nil =>
        refine PTs.imp (pts_one (sB b C h.1 o.1)) fun σ H Qv ⟨r, L, Q, x, rl, re, w, xq, kq⟩ => ?_
        unfold WBs at w
        refine tst_tE rl re xq w fun v L1 H1 e1 r1 re1 xq1 f => kq _ _ ⟨L1, e1, r1, ?_⟩
        cases v with
        | false => exact f.2 rfl
        | true =>
          replace f := f.1 rfl
          unfold WBs at f
          exact f
    · cases h
theorem sI : ∀ (it : I) {X : Cx} {G : Gx} {ck : Ck} {k : Nat} {Wx : WX} {tg a : Expr}, Cok X G ck k Wx → okI it ck a = true → OksI (tbOf X.prog X.w G X.base k) it → PI X tg a (tI G Wx it)
  | .seq e, X, G, ck, k, Wx, tg, a, C, h, o => by
    unfold okI at h
    unfold OksI at o
    exact si_seq C (sE e C h o)
  | .r1 e, X, G, ck, k, Wx, tg, a, C, h, o => by
    unfold okI at h
    split at h
    · unfold OksI at o
      simp only [Bool.and_eq_true, beq_iff_eq] at h
      obtain ⟨⟨rfl, h1⟩, h2⟩ := h
      exact si_r1 C h1 o.1 (okE_star h2) (sE e C h2 o.2)
    · cases h
  | .r2 e f, X, G, ck, k, Wx, tg, a, C, h, o => by
    unfold okI at h
    split at h
    · unfold OksI at o
      simp only [Bool.and_eq_true, beq_iff_eq] at h
      obtain ⟨⟨⟨rfl, h1⟩, h2⟩, h3⟩ := h
      exact si_r2 C h1 o.1 (okE_star h2) (okE_star h3) (sE e C h2 o.2.1) (sE f C h3 o.2.2)
    · cases h
end
end Lg

set_option Elab.async false
set_option linter.all false
set_option maxRecDepth 100000
/-! ## Statements -/
namespace Lg
open PySem L2
/-- is the value a comprehension that the machine stores by itself -/
def swLc (sc : Scope) (v tg : Expr) : Bool :=
  match v with
  | .ListComp _ _ s p | .SetComp _ _ s p | .DictComp _ _ _ s p => (match tg with
    | .Name t pos => sc.names.lookup t == some .local && pos.line == p.line && !(s.names.any fun (n, k) => n == t && (k == .local || k == .cell))
    | _ => false)
  | _ => false
theorem swLc_ok {env : Env} {sc : Scope} {v tg : Expr} {l : Nat} (hs : env.scope = sc) (hk : sc.kind = .function) : swapsWithSole [tg] v l env = pure (swLc sc v tg) := by
  have hb : env.blockKind = .function := by unfold Env.blockKind; rw [hs, hk]; rfl
  show swapsWith v (some tg) l env = _
  unfold swapsWith swLc
  cases v <;> first | rfl | (cases tg <;> first | rfl | (simp only [hb, Env.kindOf, hs]; rfl))
/-- are the names of a = .. stored from the right -/
def swSt (sc : Scope) (tg v : Expr) : Option (Option (List Str)) :=
  match tg, v with
  | .Tuple ts _ _, .Tuple vs _ _ =>
    if !(ts.length == 2 || ts.length == 3) || vs.length != ts.length then some none else
    if (vs.any fun | .Starred .. => true | _ => false) then some none else
    let line := (ts.head?.map (·.pos.line)).getD 0
    let names := ts.filterMap fun
      | .Name id pos => if sc.names.lookup id == some .local && pos.line == line then some id else none
      | _ => none
    if names.length != ts.length || names.eraseDups.length != names.length then some none else
    if vs.all (foldedForSure 8) then some none else
    if vs.all (constantsAlone 8) then none else some (some names)
  | .List _ _, .Tuple _ _ _ => none
  | _, _ => some none
theorem swSt_ok {env : Env} {sc : Scope} {v tg : Expr} {r : Option (List Str)} (hs : env.scope = sc) (hk : sc.kind = .function) (h : swSt sc tg v = some r) : swappedStores [tg] v env = pure r := by
  have hb : env.blockKind = .function := by unfold Env.blockKind; rw [hs, hk]; rfl
  have key : ∀ {c : Bool} {A : Option (Option (List Str))} {B : Sem (Option (List Str))}, (if c = true then some none else A) = some r → (A = some r → B = pure r) → (if c = true then (pure none : Sem (Option (List Str))) else B) = pure r := by
    intro c A B h k
    cases c with
    | true => simp at h; subst h; rfl
    | false => simp at h; simpa using k h
  unfold swSt at h
  split at h
  · unfold swappedStores
    simp only [hb, Env.kindOf, hs]
    rw [show (ScopeKind.function != ScopeKind.function) = false from rfl, Bool.or_false]
    refine key h fun h => key h fun h => key h fun h => key h fun h => ?_
    split at h
    · cases h
    · rename_i hc
      cases h
      rw [if_neg hc]
      rfl
  · cases h
  · cases h
    unfold swappedStores
    rename_i h1 h2
    cases tg <;> first | rfl | (cases v <;> first | rfl | exact (h1 _ _ _ _ _ _ rfl rfl).elim | exact (h2 _ _ _ _ _ rfl rfl).elim)

def notComp : Expr → Bool
  | .ListComp _ _ _ _ => false | .SetComp _ _ _ _ => false | .DictComp _ _ _ _ _ => false
  | _ => true
def isLc : E → Bool
  | .lc _ _ _ _ _ => true
  | _ => false
def tupLen : Expr → Nat
  | .Tuple vs _ _ => vs.length
  | _ => 0
def parB (sc : Scope) (tg v : Expr) (n : Nat) : Bool := match tg with
  | .Tuple [.Name x _, .Name y _] _ _ => n == 2 && tupLen v == 2 && decide (swSt sc tg v = some (some [x, y])) && decide (sc.names.lookup x = some .local) && decide (sc.names.lookup y = some .local)
  | .Tuple [.Name x _, .Name y _, .Name z _] _ _ => n == 3 && tupLen v == 3 && decide (swSt sc tg v = some (some [x, y, z])) && decide (sc.names.lookup x = some .local) && decide (sc.names.lookup y = some .local) && decide (sc.names.lookup z = some .local)
  | _ => false
mutual
def okS : S → Ck → Stmt → Bool
  | .asg t e, ck, st => match st with
    | .Assign [tg] v _ => okT ck t tg && !swLc ck.sc v tg && okE e ck v && decide (swSt ck.sc tg v = some none)
    | _ => false
  | .asgLc i e, ck, st => match st with
    | .Assign [tg] v _ => okT ck (.n i) tg && swLc ck.sc v tg && okE e ck v && isLc e
    | _ => false
  | .par is es, ck, st => match st with
    | .Assign [tg] v _ => okT ck (.tu (is.map T.n)) tg && okE (.tup es) ck v && decide (is.Nodup) && parB ck.sc tg v is.length
    | _ => false
  | .setI o i e, ck, st => match st with
    | .Assign [.Subscript a b p] v _ => okE o ck a && okE i ck b && okE e ck v && notComp v && notSlice b
    | _ => false
  | .ex e, ck, st => match st with
    | .Expr a _ => okE e ck a && notComp a
    | _ => false
  | .ret e, ck, st => match st with
    | .Return (some a) _ => okE e ck a
    | _ => false
  | .retN, _, st => match st with
    | .Return none _ => true
    | _ => false
  | .pass, _, st => match st with
    | .Pass _ => true
    | _ => false
  | .brk, _, st => match st with
    | .Break _ => true
    | _ => false
  | .cont, _, st => match st with
    | .Continue _ => true
    | _ => false
  | .ife t a b, ck, st => match st with
    | .If c x y _ => okB t ck c && okSs a ck x && okSs b ck y
    | _ => false
  | .for_ t it body, ck, st => match st with
    | .For tg i b [] _ => okT ck t tg && okI it ck i && notSet i && okSs body ck b
    | _ => false
  | .whl t body, ck, st => match st with
    | .While c b [] _ => okB t ck c && okSs body ck b
    | _ => false
  | .nev, _, _ => true
def okSs : List S → Ck → List Stmt → Bool
  | [], _, st => st.isEmpty
  | s :: ss, ck, st => match st with
    | a :: r => okS s ck a && okSs ss ck r
    | [] => false
end
mutual
def OksS (t : Tb) : S → Prop
  | .asg _ e => Oks t e
  | .asgLc _ e => Oks t e
  | .par _ es => OksA t es
  | .setI o i e => Oks t o ∧ Oks t i ∧ Oks t e
  | .ex e => Oks t e
  | .ret e => Oks t e
  | .retN => True
  | .pass => True
  | .brk => True
  | .cont => True
  | .ife b x y => OksB t b ∧ OksSs t x ∧ OksSs t y
  | .for_ _ it body => OksI t it ∧ OksSs t body
  | .whl b body => OksB t b ∧ OksSs t body
  | .nev => True
def OksSs (t : Tb) : List S → Prop
  | [] => True
  | s :: ss => OksS t s ∧ OksSs t ss
end

/-! ### soundness -/
structure EnOk (G : Gx) (L : Lx) (H : Hp) (N : En) (Dn : Ends) : Prop where
  nx : ∀ r' σ' L' H', Ext L H L' H' → RL G L' H' → RE G L'.F H' r' σ' → N.nx r' L'.u → Dn.nx σ' H'
  rt : ∀ d v L' H', Ext L H L' H' → RL G L' H' → RV G L'.F H' d v → N.rt d L'.u → Dn.rt v H'
  bk : ∀ r' σ' L' H', Ext L H L' H' → RL G L' H' → RE G L'.F H' r' σ' → N.bk r' L'.u → Dn.bk σ' H'
  ct : ∀ r' σ' L' H', Ext L H L' H' → RL G L' H' → RE G L'.F H' r' σ' → N.ct r' L'.u → Dn.ct σ' H'
theorem EnOk.fwd {G : Gx} {L L1 : Lx} {H H1 : Hp} {N : En} {Dn : Ends} (e : Ext L H L1 H1) (h : EnOk G L H N Dn) : EnOk G L1 H1 N Dn :=
  ⟨fun a b c d x => h.nx a b c d (e.trans x), fun a b c d x => h.rt a b c d (e.trans x), fun a b c d x => h.bk a b c d (e.trans x), fun a b c d x => h.ct a b c d (e.trans x)⟩
def XS (G : Gx) (Wx : WX) (L : Lx) (H : Hp) (x : Rho → Ex) : Prop := ∀ c fs r' σ' L' H' cls dx, Ext L H L' H' → RL G L' H' → RE G L'.F H' r' σ' → RX G L' H' c fs cls dx → x r' c fs L'.u → Wx cls dx σ' H'
theorem XS.fwd {G : Gx} {Wx : WX} {L L1 : Lx} {H H1 : Hp} {x : Rho → Ex} (e : Ext L H L1 H1) (h : XS G Wx L H x) : XS G Wx L1 H1 x := fun c fs r' σ' L' H' cls dx e2 => h c fs r' σ' L' H' cls dx (e.trans e2)
theorem XS.at {G : Gx} {Wx : WX} {L : Lx} {H : Hp} {x : Rho → Ex} {r : Rho} {σ : St} (h : XS G Wx L H x) (rl : RL G L H) (re : RE G L.F H r σ) : XQ G Wx σ L H (x r) := fun c fs L' H' cls dx e rl' rx q => h c fs r σ L' H' cls dx e rl' (re.ext rl e) rx q
def tS (G : Gx) (Wx : WX) (s : S) : TS := fun Dn σ H => ∃ r L N x, RL G L H ∧ RE G L.F H r σ ∧ WS s r L.u N x ∧ XS G Wx L H x ∧ EnOk G L H N Dn
def tSs (G : Gx) (Wx : WX) (s : List S) : TS := fun Dn σ H => ∃ r L N x, RL G L H ∧ RE G L.F H r σ ∧ WSs s r L.u N x ∧ XS G Wx L H x ∧ EnOk G L H N Dn
theorem PS.imp {X : Cx} {a : Stmt} {t t' : TS} (h : PS X a t) (i : ∀ Dn σ H, t' Dn σ H → t Dn σ H) : PS X a t' := ⟨fun pins s σ H Dn I q => h.run pins s σ H Dn I (i _ _ _ q)⟩
theorem PSs.imp {X : Cx} {a : List Stmt} {t t' : TS} (h : PSs X a t) (i : ∀ Dn σ H, t' Dn σ H → t Dn σ H) : PSs X a t' := ⟨fun pins s σ H Dn I q => h.run pins s σ H Dn I (i _ _ _ q)⟩
section
variable {X : Cx} {G : Gx} {ck : Ck} {k : Nat} {Wx : WX} {tg a b c : Expr} {ea eb ec : E} {es : List Expr} {ees : List E} {pos p2 p3 : Pos}
theorem RE.lset {L : Lx} {H : Hp} {r : Rho} {σ : St} : ∀ {is : List Nat} {ds : List D} {vs : List V} {r' : Rho}, RE G L.F H r σ → RVs G L.F H ds vs → setsAll is ds r = some r' → True := fun _ _ _ => trivial
theorem ss_asg (C : Cok X G ck k Wx) (hk : ck.sc.kind = .function) {t : T} (ht : okT ck t tg = true) (h1 : swLc ck.sc a tg = false) (h2 : swSt ck.sc tg a = some none) (ha : PE X a (tE G Wx ea)) : PS X (.Assign [tg] a pos) (tS G Wx (.asg t ea)) := by
  refine PS.imp (ps_asg ha (sg_T C t ht) (by rw [swLc_ok C.hsc hk, h1]) (swSt_ok C.hsc hk h2) ?_) fun Dn σ H ⟨r, L, N, x, rl, re, w, xs, en⟩ => ?_
  · cases t <;> cases tg <;> first | rfl | (simp [okT] at ht)
  · unfold WS at w
    exact one_tE rl re (xs.at rl re) w fun v d L1 H1 e1 r1 re1 xq1 rv f => ⟨d, r, L1, _, r1, re1, rv, f, fun r' σ' re' _ q => en.nx r' σ' L1 H1 e1 r1 re' q⟩
theorem ss_ex (C : Cok X G ck k Wx) (h1 : notComp a = true) (ha : PE X a (tE G Wx ea)) : PS X (.Expr a pos) (tS G Wx (.ex ea)) := by
  refine PS.imp (ps_expr ha ?_) fun Dn σ H ⟨r, L, N, x, rl, re, w, xs, en⟩ => ?_
  · cases a <;> first | rfl | (simp [notComp] at h1)
  · unfold WS at w
    exact one_tE rl re (xs.at rl re) w fun v d L1 H1 e1 r1 re1 xq1 rv f => en.nx r σ L1 H1 e1 r1 re1 f
theorem ss_ret (ha : PE X a (tE G Wx ea)) : PS X (.Return (some a) pos) (tS G Wx (.ret ea)) := by
  refine PS.imp (ps_ret ha) fun Dn σ H ⟨r, L, N, x, rl, re, w, xs, en⟩ => ?_
  unfold WS at w
  exact one_tE rl re (xs.at rl re) w fun v d L1 H1 e1 r1 re1 xq1 rv f => en.rt d v L1 H1 e1 r1 rv f
theorem ss_setI (C : Cok X G ck k Wx) (h1 : notComp c = true) (h2 : notSlice b = true) (ha : PE X a (tE G Wx ea)) (hb : PE X b (tE G Wx eb)) (hc : PE X c (tE G Wx ec)) : PS X (.Assign [.Subscript a b p2] c pos) (tS G Wx (.setI ea eb ec)) := by
  refine PS.imp (ps_asg hc (pg_sub ha hb (set_D (G := G)) (by intro v; cases b <;> first | rfl | (simp [notSlice] at h2))) ?_ ?_ rfl) fun Dn σ H ⟨r, L, N, x, rl, re, w, xs, en⟩ => ?_
  · cases c <;> first | rfl | (simp [notComp] at h1)
  · cases c <;> rfl
  · unfold WS at w
    refine one_tE rl re (xs.at rl re) w fun v d L1 H1 e1 r1 re1 xq1 rv f => two_tE r1 re1 xq1 f fun u z d2 d3 L3 H3 e3 r3 re3 _ ru rz g => ⟨d2, d3, d, L3, _, r3, ru, rz, rv.ext r1 e3, g, fun L4 H4 e4 r4 q => en.nx r σ L4 H4 ((e1.trans e3).trans e4) r4 (re3.ext r3 e4) q⟩
theorem ss_ife {bt : B} {sa sb : List S} {x y : List Stmt} (ht : PT X c (tTst G Wx bt)) (ha : PSs X x (tSs G Wx sa)) (hb : PSs X y (tSs G Wx sb)) : PS X (.If c x y pos) (tS G Wx (.ife bt sa sb)) := by
  refine PS.imp (ps_if ht ha hb) fun Dn σ H ⟨r, L, N, x, rl, re, w, xs, en⟩ => ?_
  unfold WS at w
  refine tst_tE rl re (xs.at rl re) w fun v L1 H1 e1 r1 re1 xq1 f => ?_
  cases v with
  | true =>
    replace f := f.1 rfl
    simp only [if_true]
    exact ⟨r, L1, N, x, r1, re1, f, xs.fwd e1, en.fwd e1⟩
  | false =>
    replace f := f.2 rfl
    simp only [Bool.false_eq_true, if_false]
    exact ⟨r, L1, N, x, r1, re1, f, xs.fwd e1, en.fwd e1⟩
theorem ss_for (C : Cok X G ck k Wx) {t : T} {it : I} {sb : List S} {body : List Stmt} (ht : okT ck t tg = true) (hn : notSet a = true) (hi : PI X tg a (tI G Wx it)) (hb : PSs X body (tSs G Wx sb)) : PS X (.For tg a body [] pos) (tS G Wx (.for_ t it sb)) := by
  refine PS.imp (ps_for C.own C.calm hi (sg_T C t ht) hb (by
    intro v
    cases a <;> first | rfl | (simp [notSet] at hn))) fun Dn σ H ⟨r, L, N, x, rl, re, w, xs, en⟩ => ?_
  unfold WS at w
  refine ⟨r, L, _, _, rl, re, w, xs.at rl re, fun ys stay L1 J H1 e1 r1 ok ⟨Iv, i0, st⟩ => ?_⟩
  refine ⟨fun i m σ' H' => m = ys.length - i ∧ i ≤ ys.length ∧ ∃ r' L', Ext L1 H1 L' H' ∧ RL G L' H' ∧ RE G L'.F H' r' σ' ∧ Iv i r' L'.u, ⟨ys.length, by simp, Nat.zero_le _, r, L1, Ext.refl, r1, re.ext rl e1, i0⟩, ?_⟩
  rintro i m σ' H' ⟨rfl, hi', r', L', e2, r2, re2, iv⟩
  obtain ⟨hst, step, fin⟩ := st i r' L'.u hi' iv
  have ok2 := ok L' H' e2 r2 hst
  by_cases hlt : i < ys.length
  · refine .inr ⟨(ok2.1 i hlt).1, fun σ4 H4 => ∃ r4 L4, Ext L1 H1 L4 H4 ∧ RL G L4 H4 ∧ RE G L4.F H4 r4 σ4 ∧ Iv (i + 1) r4 L4.u, fun σ4 H4 q => ⟨ys.length - (i + 1), by omega, rfl, by omega, q⟩, fun y H3 hy => ?_⟩
    obtain ⟨d, L3, ed, eu, e3, r3, rv3⟩ := (ok2.1 i hlt).2 y H3 hy
    have e13 := e2.trans e3
    refine ⟨d, r', L3, _, r3, re2.ext r2 e3, rv3, step d ed, fun r4 σ4 re4 _ q => ⟨r4, L3, _, x, r3, re4, by rw [eu]; exact q, xs.fwd (e1.trans e13), ?_⟩⟩
    refine ⟨fun r5 σ5 L5 H5 e5 r5' re5 ⟨r6, L6, fg, iv6⟩ => ?_, fun d v L5 H5 e5 r5' rv q => en.rt d v L5 H5 ((e1.trans e13).trans e5) r5' rv q, fun r5 σ5 L5 H5 e5 r5' re5 q => en.nx r5 σ5 L5 H5 ((e1.trans e13).trans e5) r5' re5 q, fun r5 σ5 L5 H5 e5 r5' re5 ⟨r6, L6, fg, iv6⟩ => ?_⟩
    · obtain ⟨L7, eu7, e7, r7, re7⟩ := fg.ok rfl r5' re5
      subst eu7
      exact ⟨r6, L7, (e13.trans e5).trans e7, r7, re7, iv6⟩
    · obtain ⟨L7, eu7, e7, r7, re7⟩ := fg.ok rfl r5' re5
      subst eu7
      exact ⟨r6, L7, (e13.trans e5).trans e7, r7, re7, iv6⟩
  · have ei : i = ys.length := by omega
    exact .inl ⟨ok2.2 i (by omega), en.nx r' σ' L' H' (e1.trans e2) r2 re2 (fin ei)⟩
theorem ss_whl (C : Cok X G ck k Wx) {bt : B} {sb : List S} {body : List Stmt} (ht : PT X c (tTst G Wx bt)) (hb : PSs X body (tSs G Wx sb)) : PS X (.While c body [] pos) (tS G Wx (.whl bt sb)) := by
  refine PS.imp (ps_while C.own ht hb) fun Dn σ H ⟨r, L, N, x, rl, re, w, xs, en⟩ => ?_
  unfold WS at w
  obtain ⟨Iv, ⟨m0, i0⟩, st⟩ := w
  refine ⟨fun m σ' H' => ∃ r' L', Ext L H L' H' ∧ RL G L' H' ∧ RE G L'.F H' r' σ' ∧ Iv m r' L'.u, ⟨m0, r, L, Ext.refl, rl, re, i0⟩, ?_⟩
  rintro m σ' H' ⟨r', L', e2, r2, re2, iv⟩
  refine tst_tE r2 re2 ((xs.fwd e2).at r2 re2) (st m r' L'.u iv) fun v L1 H1 e1 r1 re1 xq1 f => ?_
  have e3 := e2.trans e1
  cases v with
  | true =>
    replace f := f.1 rfl
    simp only [if_true]
    refine ⟨fun σ4 H4 => ∃ m', m' < m ∧ ∃ r4 L4, Ext L H L4 H4 ∧ RL G L4 H4 ∧ RE G L4.F H4 r4 σ4 ∧ Iv m' r4 L4.u, fun σ4 H4 q => q, r', L1, _, x, r1, re1, f, xs.fwd e3, ?_⟩
    refine ⟨fun r5 σ5 L5 H5 e5 r5' re5 ⟨m', r6, L6, hm, fg, iv6⟩ => ?_, fun d v L5 H5 e5 r5' rv q => en.rt d v L5 H5 (e3.trans e5) r5' rv q, fun r5 σ5 L5 H5 e5 r5' re5 q => en.nx r5 σ5 L5 H5 (e3.trans e5) r5' re5 q, fun r5 σ5 L5 H5 e5 r5' re5 ⟨m', r6, L6, hm, fg, iv6⟩ => ?_⟩
    · obtain ⟨L7, eu7, e7, r7, re7⟩ := fg.ok rfl r5' re5
      subst eu7
      exact ⟨m', hm, r6, L7, (e3.trans e5).trans e7, r7, re7, iv6⟩
    · obtain ⟨L7, eu7, e7, r7, re7⟩ := fg.ok rfl r5' re5
      subst eu7
      exact ⟨m', hm, r6, L7, (e3.trans e5).trans e7, r7, re7, iv6⟩
  | false =>
    replace f := f.2 rfl
    simp only [Bool.false_eq_true, if_false]
    exact en.nx r' σ' L1 H1 e3 r1 re1 f
theorem ss_asgLc (C : Cok X G ck k Wx) (hk : ck.sc.kind = .function) {i : Nat} {t : T} {it : I} {bs : List B} {own : List (Str × Nat)} (ht : okT ck (.n i) tg = true) (h1 : swLc ck.sc a tg = true) (hok : okE (.lc ea t it bs own) ck a = true) (o : Oks (tbOf X.prog X.w G X.base k) (.lc ea t it bs own)) : PS X (.Assign [tg] a pos) (tS G Wx (.asgLc i (.lc ea t it bs own))) := by
  have h := hok
  unfold okE at h
  split at h
  · unfold Oks at o
    simp only [Bool.and_eq_true] at h
    obtain ⟨⟨⟨⟨⟨⟨q1, q2⟩, q3⟩, q4⟩, q5⟩, q6⟩, q7⟩ := h
    rename_i x tg' iter cs scope p'
    have hi := sI (tg := tg') it C q3 o.2.1
    have hg := fun (s : Shared) (H : Hp) (Cc : Addr) (cl : List (Str × Addr)) (fp : List Addr) => sg_T (C.blk (s := s) (H := H) (scope := scope) (Cc := Cc) (cl := cl) (fp := fp)) t q5
    have htt := fun (s : Shared) (H : Hp) (Cc : Addr) (cl : List (Str × Addr)) (fp : List Addr) => sBs bs (C.blk (s := s) (H := H) (scope := scope) (Cc := Cc) (cl := cl) (fp := fp)) q6 o.2.2
    have he := fun (s : Shared) (H : Hp) (Cc : Addr) (cl : List (Str × Addr)) (fp : List Addr) => sE ea (C.blk (s := s) (H := H) (scope := scope) (Cc := Cc) (cl := cl) (fp := fp)) q7 o.1
    cases tg with
    | Name y py =>
      have sw := swLc_ok (l := pos.line) (v := .ListComp x [⟨tg', iter, cs, 0⟩] scope p') (tg := .Name y py) C.hsc hk
      rw [h1] at sw
      unfold okT at ht
      simp only [Bool.and_eq_true, atB, decide_eq_true_eq] at ht
      have hyl : X.env.scope.names.lookup y = some .local := by
        unfold swLc at h1
        simp only [Bool.and_eq_true, beq_iff_eq] at h1
        rw [C.hsc]
        exact h1.1.1
      refine PS.imp (ps_setLc C.calm C.nd (by rw [C.hN]; exact ht.1) hyl sw hi (blkOk_by (by rw [C.hN, C.hsc]; exact q1)) hg htt he (by
        intro v
        cases iter <;> first | rfl | (simp [notSet] at q4))) fun Dn σ H ⟨r, L, N, x, rl, re, w, xs, en⟩ => ?_
      unfold WS at w
      refine se_lc C hi q4 q1 q2 hg htt he σ H _ ⟨r, L, _, _, rl, re, w, xs.at rl re, fun v H' ⟨d, L', e1, r1, rv, q⟩ => ?_⟩
      exact en.nx _ _ L' H' e1 r1 ((re.ext rl e1).set rv) q
    | _ => simp [okT] at ht
  · cases h
theorem ss_par (C : Cok X G ck k Wx) (hk : ck.sc.kind = .function) {is : List Nat} (ht : okT ck (.tu (is.map T.n)) tg = true) (hv : okE (.tup ees) ck a = true) (hn : is.Nodup) (hp : parB ck.sc tg a is.length = true) (o : OksA (tbOf X.prog X.w G X.base k) ees) : PS X (.Assign [tg] a pos) (tS G Wx (.par is ees)) := by
  unfold okE at hv
  split at hv
  · rename_i vs k2 pt2
    have hA := sA ees C hv o
    unfold parB at hp
    split at hp
    · rename_i x px y py kt pt
      simp only [Bool.and_eq_true, beq_iff_eq, decide_eq_true_eq, tupLen] at hp
      obtain ⟨⟨⟨⟨hl, hl2⟩, hs⟩, hx⟩, hy⟩ := hp
      match is, hl, vs, hl2 with
      | [i, j], _, [p, q], _ =>
        simp only [List.map_cons, List.map_nil, okTs, okT, Bool.and_eq_true, atB, decide_eq_true_eq] at ht
        have hij : i ≠ j := by
          simp at hn
          exact hn
        refine PS.imp (ps_par C.calm C.nd (by rw [C.hN]; exact ht.1.1) (by rw [C.hN]; exact ht.2.1.1) hij (by rw [C.hsc]; exact hx) (by rw [C.hsc]; exact hy) hA (swSt_ok C.hsc hk hs) rfl) fun Dn σ H ⟨r, L, N, x, rl, re, w, xs, en⟩ => ?_
        unfold WS at w
        refine all_tA rl re (xs.at rl re) w fun us ds L1 H1 e1 r1 re1 xq1 rv f => ?_
        split at f
        · rename_i r' er
          match ds, rv, er with
          | [d, e], rv, er =>
            simp only [setsAll, Option.some.injEq] at er
            subst er
            obtain ⟨v, u, rfl, rd, ru⟩ := rv.two
            exact ⟨_, _, rfl, en.nx _ _ L1 H1 e1 r1 ((re1.set rd).set ru) f⟩
        · exact f.elim
    · rename_i x px y py z pz kt pt
      simp only [Bool.and_eq_true, beq_iff_eq, decide_eq_true_eq, tupLen] at hp
      obtain ⟨⟨⟨⟨⟨hl, hl2⟩, hs⟩, hx⟩, hy⟩, hz⟩ := hp
      match is, hl, vs, hl2 with
      | [i, j, l], _, [p, q, p'], _ =>
        simp only [List.map_cons, List.map_nil, okTs, okT, Bool.and_eq_true, atB, decide_eq_true_eq] at ht
        have hij : (i ≠ j ∧ i ≠ l) ∧ j ≠ l := by
          simp at hn
          exact hn
        refine PS.imp (ps_par3 C.calm C.nd (by rw [C.hN]; exact ht.1.1) (by rw [C.hN]; exact ht.2.1.1) (by rw [C.hN]; exact ht.2.2.1.1) hij.1.1 hij.1.2 hij.2 (by rw [C.hsc]; exact hx) (by rw [C.hsc]; exact hy) (by rw [C.hsc]; exact hz) hA (swSt_ok C.hsc hk hs) rfl) fun Dn σ H ⟨r, L, N, x, rl, re, w, xs, en⟩ => ?_
        unfold WS at w
        refine all_tA rl re (xs.at rl re) w fun us ds L1 H1 e1 r1 re1 xq1 rv f => ?_
        split at f
        · rename_i r' er
          match ds, rv, er with
          | [d, e, g], rv, er =>
            simp only [setsAll, Option.some.injEq] at er
            subst er
            cases rv with
            | cons rd rest =>
              obtain ⟨v, u, rfl, ru, rw'⟩ := RVs.two rest
              exact ⟨_, _, _, rfl, en.nx _ _ L1 H1 e1 r1 (((re1.set rd).set ru).set rw') f⟩
        · exact f.elim
    · cases hp
  · cases hv
theorem ss_nil : PSs X [] (tSs G Wx []) := by
  refine PSs.imp pss_nil fun Dn σ H ⟨r, L, N, x, rl, re, w, xs, en⟩ => ?_
  unfold WSs at w
  exact en.nx r σ L H Ext.refl rl re w
theorem ss_cons {st : Stmt} {rest : List Stmt} {s : S} {ss : List S} (h1 : PS X st (tS G Wx s)) (h2 : PSs X rest (tSs G Wx ss)) : PSs X (st :: rest) (tSs G Wx (s :: ss)) := by
  refine PSs.imp (pss_cons h1 h2) fun Dn σ H ⟨r, L, N, x, rl, re, w, xs, en⟩ => ?_
  unfold WSs at w
  obtain ⟨r0, M0, vg, w⟩ := w
  obtain ⟨L0, eu0, e0, rl0, re0⟩ := vg.ok rfl rl re
  subst eu0
  replace xs := xs.fwd e0
  replace en := en.fwd e0
  exact ⟨r0, L0, _, x, rl0, re0, w, xs, ⟨fun r' σ' L' H' e r1 re1 q => ⟨r', L', N, x, r1, re1, q, xs.fwd e, en.fwd e⟩, en.rt, en.bk, en.ct⟩⟩
end
mutual
theorem sS : ∀ (s : S) {X : Cx} {G : Gx} {ck : Ck} {k : Nat} {Wx : WX} {st : Stmt}, Cok X G ck k Wx → ck.sc.kind = .function → okS s ck st = true → OksS (tbOf X.prog X.w G X.base k) s → PS X st (tS G Wx s)
  | .asg t e, X, G, ck, k, Wx, st, C, hk, h, o => by
    unfold okS at h
    split at h
    · simp only [Bool.and_eq_true, Bool.not_eq_true', decide_eq_true_eq] at h
      unfold OksS at o
      exact ss_asg C hk h.1.1.1 h.1.1.2 h.2 (sE e C h.1.2 o)
    · cases h
  | .asgLc i e, X, G, ck, k, Wx, st, C, hk, h, o => by
    unfold okS at h
    split at h
    · simp only [Bool.and_eq_true] at h
      unfold OksS at o
      cases e with
      | lc a t it ifs own => exact ss_asgLc C hk h.1.1.1 h.1.1.2 h.1.2 o
      | _ => exact nomatch h.2
    · cases h
  | .par is es, X, G, ck, k, Wx, st, C, hk, h, o => by
    unfold okS at h
    split at h
    · simp only [Bool.and_eq_true, decide_eq_true_eq] at h
      unfold OksS at o
      exact ss_par C hk h.1.1.1 h.1.1.2 h.1.2 h.2 o
    · cases h
  | .setI p i e, X, G, ck, k, Wx, st, C, hk, h, o => by
    unfold okS at h
    split at h
    · simp only [Bool.and_eq_true] at h
      unfold OksS at o
      exact ss_setI C h.1.2 h.2 (sE p C h.1.1.1.1 o.1) (sE i C h.1.1.1.2 o.2.1) (sE e C h.1.1.2 o.2.2)
    · cases h
  | .ex e, X, G, ck, k, Wx, st, C, hk, h, o => by
    unfold okS at h
    split at h
    · simp only [Bool.and_eq_true] at h
      unfold OksS at o
      exact ss_ex C h.2 (sE e C h.1 o)
    · cases h
  | .ret e, X, G, ck, k, Wx, st, C, hk, h, o => by
    unfold okS at h
    split at h
    · unfold OksS at o
      exact ss_ret (sE e C h o)
    · cases h
  | .retN, X, G, ck, k, Wx, st, C, hk, h, o => by
    unfold okS at h
    split at h
    · refine PS.imp ps_retN fun Dn σ H ⟨r, L, N, x, rl, re, w, xs, en⟩ => ?_
      unfold WS at w
      exact en.rt .non .non L H Ext.refl rl .non w
    · cases h
  | .pass, X, G, ck, k, Wx, st, C, hk, h, o => by
    unfold okS at h
    split at h
    · refine PS.imp ps_pass fun Dn σ H ⟨r, L, N, x, rl, re, w, xs, en⟩ => ?_
      unfold WS at w
      exact en.nx r σ L H Ext.refl rl re w
    · cases h
  | .brk, X, G, ck, k, Wx, st, C, hk, h, o => by
    unfold okS at h
    split at h
    · refine PS.imp ps_break fun Dn σ H ⟨r, L, N, x, rl, re, w, xs, en⟩ => ?_
      unfold WS at w
      exact en.bk r σ L H Ext.refl rl re w
    · cases h
  | .cont, X, G, ck, k, Wx, st, C, hk, h, o => by
    unfold okS at h
    split at h
    · refine PS.imp ps_continue fun Dn σ H ⟨r, L, N, x, rl, re, w, xs, en⟩ => ?_
      unfold WS at w
      exact en.ct r σ L H Ext.refl rl re w
    · cases h
  | .ife t a b, X, G, ck, k, Wx, st, C, hk, h, o => by
    unfold okS at h
    split at h
    · simp only [Bool.and_eq_true] at h
      unfold OksS at o
      exact ss_ife (sB t C h.1.1 o.1) (sSs a C hk h.1.2 o.2.1) (sSs b C hk h.2 o.2.2)
    · cases h
  | .for_ t it body, X, G, ck, k, Wx, st, C, hk, h, o => by
    unfold okS at h
    split at h
    · simp only [Bool.and_eq_true] at h
      unfold OksS at o
      exact ss_for C h.1.1.1 h.1.2 (sI it C h.1.1.2 o.1) (sSs body C hk h.2 o.2)
    · cases h
  | .whl t body, X, G, ck, k, Wx, st, C, hk, h, o => by
    unfold okS at h
    split at h
    · simp only [Bool.and_eq_true] at h
      unfold OksS at o
      exact ss_whl C (sB t C h.1 o.1) (sSs body C hk h.2 o.2)
    · cases h
  | .nev, X, G, ck, k, Wx, st, C, hk, h, o => PS.imp ps_never fun Dn σ H ⟨r, L, N, x, rl, re, w, xs, en⟩ => by
      unfold WS at w
      exact w
theorem sSs : ∀ (ss : List S) {X : Cx} {G : Gx} {ck : Ck} {k : Nat} {Wx : WX} {sts : List Stmt}, Cok X G ck k Wx → ck.sc.kind = .function → okSs ss ck sts = true → OksSs (tbOf X.prog X.w G X.base k) ss → PSs X sts (tSs G Wx ss)
  | [], X, G, ck, k, Wx, sts, C, hk, h, o => by
    cases sts with
    | nil => exact ss_nil
    | cons a b => simp [okSs] at h
  | s :: ss, X, G, ck, k, Wx, sts, C, hk, h, o => by
    cases sts with
    | nil => simp [okSs] at h
    | cons a b =>
      unfold okSs at h
      unfold OksSs at o
      simp only [Bool.and_eq_true] at h
      exact ss_cons (sS s C hk h.1 o.1) (sSs ss C hk h.2 o.2)
end
end Lg

set_option Elab.async false
set_option linter.all false
set_option maxRecDepth 100000
/-! ## A def by its text -/
namespace Lg
open PySem L2
def startR (N : List Str) (ds : List D) : Rho := ds.map some ++ List.replicate (N.length - ds.length) none
/-- what is wanted behind a body: things may be forgotten -/
def endsOf (Q : DK) : En where
  nx := fun _ L' => ∃ L'', Sub L'' L' ∧ Q .non L''
  rt := fun d L' => ∃ d' L'', Vg [some d] L' [some d'] L'' ∧ Q d' L''
def exOf (x : Ex) : Rho → Ex := fun _ c fs L' => ∃ L'', Sub L'' L' ∧ x c fs L''
theorem RE.start {G : Gx} {L : Lx} {H : Hp} {N : List Str} {ds : List D} {vs : List V} (rd : RVs G L.F H ds vs) : RE G L.F H (startR N ds) (L2.start N vs) := by
  unfold startR L2.start
  refine ⟨by simp [rd.length], fun i d e => ?_⟩
  by_cases hi : i < ds.length
  · rw [List.getElem?_append_left (by simpa using hi), List.getElem?_map] at e
    cases q : ds[i]? with
    | none => rw [q] at e; cases e
    | some d' =>
      rw [q] at e
      have e' : d' = d := by simpa using e
      subst e'
      obtain ⟨v, h1, h2⟩ := rd.get q
      refine ⟨v, ?_, h2⟩
      rw [List.getElem?_append_left (by rw [List.length_map, ← rd.length]; exact hi), List.getElem?_map, h1]
      rfl
  · rw [List.getElem?_append_right (by simpa using hi), List.getElem?_replicate] at e
    split at e <;> cases e
section
variable {P : Program} {w : World} {G : Gx} {base : Heap} {k : Nat} {f : Str} {S : Spec}
theorem RX.forget {L : Lx} {L'' : Led} {H : Hp} {c : Str} {fs : List (Str × D)} {cls : Value} {dx : Option Addr} (rl : RL G L H) (h : RX G L H c fs cls dx) (s : Sub L'' L.u) : RX G ⟨L'', L.F⟩ H c fs cls dx := by
  obtain ⟨C, h1, h2, h3⟩ := h
  refine ⟨C, h1, h2, ?_⟩
  cases dx with
  | none => exact h3
  | some d =>
    obtain ⟨vs, q1, q2, q3⟩ := h3
    exact ⟨vs, q1, s.off q2, fun f v e => let ⟨u, a, b⟩ := q3 f v e; ⟨u, a, b⟩⟩
/-- the def of the text st, its names by place N, its parameters ps, its text by E: ss -/
theorem fnok_L {qual : Str} {st : Stmt} {a : Addr} {fd : FuncData} {N ps : List Str} {ss : List Lg.S} (F : Fun G.K f qual st a fd) (hsc : FnScope N ps (defScope st)) (ok : okSs ss ⟨N, defScope st, false⟩ (defBody st) = true) (oks : OksSs (tbOf P w G base k) ss)
    (len : ∀ ds L Q x, S ds L Q x → ds.length = ps.length) (vc : ∀ ds L Q x, S ds L Q x → WSs ss (startR N ds) L (endsOf Q) (exOf x)) : FnOk P w G.K G.mg base (CX P w) (k + 3) a fd ps (lift G S) := by
  refine F.okX hsc (fun vs H Q E ⟨ds, L, Q', x, rl, rd, hs, _⟩ => by rw [← rd.length]; exact len _ _ _ _ hs) fun cdv A outer s H vs Qv E hr ⟨ds, L, Q, x, rl, rd, hs, kq, xq⟩ => ?_
  have C : Cok (cxOf (L2.CX P w) P w G.K G.mg base N qual (defScope st) a cdv A outer s H E) G ⟨N, defScope st, false⟩ k (fun cls d _ H' => E cls d H') :=
    ⟨rfl, rfl, rfl, rfl, rfl, hsc.nd, hr, takes_of rfl rfl rfl rfl, passes_of rfl, fun _ _ => rfl⟩
  refine ⟨_, sSs ss C hsc.kind ok oks, startR N ds, L, endsOf Q, exOf x, rl, RE.start rd, vc ds L.u Q x hs, ?_, ?_⟩
  · intro c fs r' σ' L' H' cls dx e r1 re rx ⟨L2, sb, q⟩
    exact xq c fs ⟨L2, L'.F⟩ H' cls dx (e.forget sb) (r1.forget sb) (rx.forget r1 sb) q
  · refine ⟨fun r' σ' L' H' e r1 re ⟨L2, sb, q⟩ => ?_, fun d v L' H' e r1 rv ⟨d', M2, vg, q⟩ => ?_, fun r' σ' L' H' e r1 re q => q.elim, fun r' σ' L' H' e r1 re q => q.elim⟩
    · exact kq _ _ ⟨.non, ⟨L2, L'.F⟩, e.forget sb, r1.forget sb, .non, q⟩
    · obtain ⟨L3, eu, e3, r3, rv3⟩ := vg.val rfl r1 rv
      subst eu
      exact kq _ _ ⟨d', L3, e.trans e3, r3, rv3, q⟩
theorem fn_L {qual : Str} {st : Stmt} {a : Addr} {fd : FuncData} {N ps : List Str} {ss : List Lg.S} (F : Fun G.K f qual st a fd) (hm : G.mg f = some (.ref a)) (hb : Binds G.K fd ps []) (hsc : FnScope N ps (defScope st)) (ok : okSs ss ⟨N, defScope st, false⟩ (defBody st) = true) (oks : OksSs (tbOf P w G base k) ss)
    (len : ∀ ds L Q x, S ds L Q x → ds.length = ps.length) (vc : ∀ ds L Q x, S ds L Q x → WSs ss (startR N ds) L (endsOf Q) (exOf x)) : FnL P w G base (k + 3) f S :=
  ⟨a, fd, ps, hm, F.kp, hb, fnok_L F hsc ok oks len vc⟩
theorem FnL.mono {j : Nat} (h : FnL P w G base j f S) (hj : j ≤ k) : FnL P w G base k f S := by
  obtain ⟨a, fd, ps, h1, h2, h3, h4⟩ := h
  exact ⟨a, fd, ps, h1, h2, h3, h4.mono hj⟩
end
/-- the law's own promise -/
def lawS (n : Nat) : Spec := fun ds L Q _ => ∃ ns : List Int, ds = [.lsc (ns.map D.int)] ∧ ns.length ≤ n ∧ ∀ L', Q (.bl true) L'
end Lg

set_option Elab.async false
set_option linter.all false
set_option maxRecDepth 100000
/-! ## Words for what a text asks -/
namespace Lg
open PySem L2
theorem eqW_int (i j : Int) (L : Led) (Q : Bool → Prop) : eqW (.int i) (.int j) L Q = Q (decide (i = j)) := rfl
theorem eqW_str (i j : Str) (L : Led) (Q : Bool → Prop) : eqW (.str i) (.str j) L Q = Q (decide (i = j)) := rfl
theorem hereL {Q : DK} {d : D} {L : Led} (h : Q d L) : ∃ d' L'', Vg [some d] L [some d'] L'' ∧ Q d' L'' := ⟨d, L, .refl _ _, h⟩
theorem hereN {Q : DK} {L : Led} (h : Q .non L) : ∃ L'', Sub L'' L ∧ Q .non L'' := ⟨L, Sub.refl, h⟩
/-- the value, things forgotten -/
theorem hereS {Q : DK} {d : D} {L L' : Led} (s : Sub L' L) (h : Q d L') : ∃ d' L'', Vg [some d] L [some d'] L'' ∧ Q d' L'' := ⟨d, L', .sub s, h⟩
def turnE (J : Rho → Led → Prop) (N : En) : En := { nx := fun r3 L3 => ∃ r4 L4, Vg r3 L3 r4 L4 ∧ J r4 L4, ct := fun r3 L3 => ∃ r4 L4, Vg r3 L3 r4 L4 ∧ J r4 L4, bk := N.nx, rt := N.rt }
theorem turn_nx {J : Rho → Led → Prop} {N : En} {r : Rho} {L : Led} (h : J r L) : (turnE J N).nx r L := ⟨r, L, Vg.refl _ _, h⟩
theorem turn_led {J : Rho → Led → Prop} {N : En} {r : Rho} {L L' : Led} (s : Sub L' L) (h : J r L') : (turnE J N).nx r L := ⟨r, L', .sub s, h⟩
section
variable {t : T} {bw : Rho → Led → En → Prop} {tw : Rho → Led → (Bool → Led → Prop) → Prop} {ew : Rho → Led → DK → Prop} {N : En} {r : Rho} {L : Led} {xs : List D} {stay : Led → Prop} {Q : DK}
/-- a for by what holds ahead of each turn -/
theorem for_xs (Iv : Nat → Rho → Led → Prop) (h0 : Iv 0 r L) (hst : ∀ i r' L', i ≤ xs.length → Iv i r' L' → stay L') (hs : ∀ i y r' L', xs[i]? = some y → Iv i r' L' → WT t y r' fun r2 => bw r2 L' (turnE (Iv (i + 1)) N))
    (hd : ∀ r' L', Iv xs.length r' L' → N.nx r' L') : ForW t bw N xs stay r L :=
  ⟨Iv, h0, fun i r' L' hi iv => ⟨hst i r' L' hi iv, fun y hy => hs i y r' L' hy iv, fun e => hd r' L' (e ▸ iv)⟩⟩
theorem for_rng {n : Nat} {f : Nat → D} (Iv : Nat → Rho → Led → Prop) (h0 : Iv 0 r L) (hs : ∀ i r' L', i < n → Iv i r' L' → WT t (f i) r' fun r2 => bw r2 L' (turnE (Iv (i + 1)) N))
    (hd : ∀ r' L', Iv n r' L' → N.nx r' L') : ForW t bw N ((List.range n).map f) (fun _ => True) r L := by
  refine for_xs Iv h0 (fun _ _ _ _ _ => trivial) (fun i y r' L' hy iv => ?_) (fun r' L' iv => hd r' L' (by simpa using iv))
  simp only [List.getElem?_map] at hy
  cases q : (List.range n)[i]? with
  | none => rw [q] at hy; cases hy
  | some j =>
    rw [q] at hy
    have hj := List.getElem?_range_eq_some q
    cases hy
    rw [hj.1]
    exact hs i r' L' hj.2 iv
where
  List.getElem?_range_eq_some {n i j : Nat} (h : (List.range n)[i]? = some j) : j = i ∧ i < n := by
    obtain ⟨h1, h2⟩ := List.getElem?_eq_some_iff.mp h
    simp at h1 h2
    exact ⟨h2.symm, h1⟩
/-- behind an item of a comprehension: another view may be taken -/
def lcE (J : D → Led → Prop) : DK := fun d L3 => ∃ d' L4, Vg [some d] L3 [some d'] L4 ∧ J d' L4
def lcN (J : Led → Prop) (L2 : Led) : Prop := ∃ L4, Sub L4 L2 ∧ J L4
theorem lcE_here {J : D → Led → Prop} {d : D} {L : Led} (h : J d L) : lcE J d L := ⟨d, L, .refl _ _, h⟩
theorem lcE_sub {J : D → Led → Prop} {d : D} {L L' : Led} (s : Sub L' L) (h : J d L') : lcE J d L := ⟨d, L', .sub s, h⟩
theorem lcN_here {J : Led → Prop} {L : Led} (h : J L) : lcN J L := ⟨L, Sub.refl, h⟩
/-- a comprehension by what holds ahead of each turn -/
theorem lc_xs (hx : xs.length ≤ line) (Iv : Nat → List D → Led → Prop) (h0 : Iv 0 [] L) (hst : ∀ i acc L', i ≤ xs.length → Iv i acc L' → stay L')
    (hs : ∀ i y acc L', xs[i]? = some y → Iv i acc L' → WT t y r fun r2 => tw r2 L' (fun k L2 => IF k (ew r2 L2 (lcE fun d L4 => Iv (i + 1) (acc ++ [d]) L4)) (lcN (Iv (i + 1) acc) L2)))
    (hd : ∀ acc L', Iv xs.length acc L' → newW L' acc Q) : LcW t tw ew Q xs stay r L :=
  ⟨hx, Iv, h0, fun i acc L' hi iv => ⟨hst i acc L' hi iv, fun y hy => hs i y acc L' hy iv, fun e => hd acc L' (e ▸ iv)⟩⟩
/-- a comprehension whose items change nothing -/
theorem lc_pure (o : D → Option D) (hx : xs.length ≤ line) (hst : stay L)
    (hs : ∀ y, y ∈ xs → ∀ J : Option D → Led → Prop, J (o y) L → WT t y r fun r2 => tw r2 L fun k L2 => IF k (ew r2 L2 fun d L3 => J (some d) L3) (J none L2))
    (hd : newO L (.lst (xs.filterMap o)) Q) : LcW t tw ew Q xs stay r L := by
  refine lc_xs hx (fun i acc L' => L' = L ∧ acc = (xs.take i).filterMap o) ⟨rfl, by simp⟩ (fun i acc L' _ h => by rw [h.1]; exact hst) (fun i y acc L' hy ⟨e1, e2⟩ => ?_) (fun acc L' ⟨e1, e2⟩ => ?_)
  · subst e1
    have hm : y ∈ xs := List.mem_of_getElem? hy
    have ht : xs.take (i + 1) = xs.take i ++ [y] := by
      rw [List.take_add_one, hy]
      rfl
    refine hs y hm (fun od L3 => match od with
      | some d => lcE (fun d L4 => L4 = L' ∧ acc ++ [d] = (xs.take (i + 1)).filterMap o) d L3
      | none => lcN (fun L4 => L4 = L' ∧ acc = (xs.take (i + 1)).filterMap o) L3) ?_
    rw [ht, List.filterMap_append]
    cases q : o y with
    | none => exact lcN_here ⟨rfl, by simp [q, e2]⟩
    | some d => exact lcE_here ⟨rfl, by simp [q, e2]⟩
  · subst e1
    rw [List.take_length] at e2
    subst e2
    exact ⟨Nat.le_trans (List.length_filterMap_le _ _) hx, hd⟩
/-- the same over a list of any type -/
theorem lc_map {α : Type} {as : List α} {f : α → D} (o : α → Option D) (hx : as.length ≤ line) (hst : stay L)
    (hs : ∀ a, a ∈ as → ∀ J : Option D → Led → Prop, J (o a) L → WT t (f a) r fun r2 => tw r2 L fun k L2 => IF k (ew r2 L2 fun d L3 => J (some d) L3) (J none L2))
    (hd : newO L (.lst (as.filterMap o)) Q) : LcW t tw ew Q (as.map f) stay r L := by
  refine lc_xs (by simpa using hx) (fun i acc L' => L' = L ∧ acc = (as.take i).filterMap o) ⟨rfl, by simp⟩ (fun i acc L' _ h => by rw [h.1]; exact hst) (fun i y acc L' hy ⟨e1, e2⟩ => ?_) (fun acc L' ⟨e1, e2⟩ => ?_)
  · subst e1
    rw [List.getElem?_map] at hy
    cases qa : as[i]? with
    | none => rw [qa] at hy; cases hy
    | some a =>
      rw [qa] at hy
      have hy : f a = y := by simpa using hy
      subst hy
      have hm : a ∈ as := List.mem_of_getElem? qa
      have ht : as.take (i + 1) = as.take i ++ [a] := by
        rw [List.take_add_one, qa]
        rfl
      refine hs a hm (fun od L3 => match od with
        | some d => lcE (fun d L4 => L4 = L' ∧ acc ++ [d] = (as.take (i + 1)).filterMap o) d L3
        | none => lcN (fun L4 => L4 = L' ∧ acc = (as.take (i + 1)).filterMap o) L3) ?_
      rw [ht, List.filterMap_append]
      cases q : o a with
      | none => exact lcN_here ⟨rfl, by simp [q, e2]⟩
      | some d => exact lcE_here ⟨rfl, by simp [q, e2]⟩
  · subst e1
    rw [List.length_map, List.take_length] at e2
    subst e2
    exact ⟨Nat.le_trans (List.length_filterMap_le _ _) hx, hd⟩
theorem lc_all {α : Type} {as : List α} {f : α → D} (g : α → D) (hx : as.length ≤ line) (hst : stay L)
    (hs : ∀ a, a ∈ as → ∀ (J : D → Led → Prop) (Jn : Led → Prop), J (g a) L → WT t (f a) r fun r2 => tw r2 L fun k L2 => IF k (ew r2 L2 fun d L3 => J d L3) (Jn L2))
    (hd : newO L (.lst (as.map g)) Q) : LcW t tw ew Q (as.map f) stay r L :=
  lc_map (fun a => some (g a)) hx hst (fun a ha J hJ => hs a ha (fun d L3 => J (some d) L3) (fun L2 => J none L2) hJ) (by rw [List.filterMap_eq_map']; exact hd)
/-- a comprehension without tests over f i, i < n, whose items may change the ledger -/
theorem lc_rng {n : Nat} {f : Nat → D} (hx : n ≤ line) (Iv : Nat → List D → Led → Prop) (h0 : Iv 0 [] L)
    (hs : ∀ i acc L', i < n → Iv i acc L' → WT t (f i) r fun r2 => tw r2 L' (fun k L2 => IF k (ew r2 L2 (lcE fun d L4 => Iv (i + 1) (acc ++ [d]) L4)) (lcN (Iv (i + 1) acc) L2)))
    (hd : ∀ acc L', Iv n acc L' → newW L' acc Q) : LcW t tw ew Q ((List.range n).map f) (fun _ => True) r L := by
  refine lc_xs (by simpa using hx) Iv h0 (fun _ _ _ _ _ => trivial) (fun i y acc L' hy iv => ?_) (fun acc L' iv => hd acc L' (by simpa using iv))
  simp only [List.getElem?_map] at hy
  cases q : (List.range n)[i]? with
  | none => rw [q] at hy; cases hy
  | some j =>
    rw [q] at hy
    have hj := for_rng.List.getElem?_range_eq_some q
    cases hy
    rw [hj.1]
    exact hs i acc L' hj.2 iv
end
/-- the value p's ref is told as the thing that is written no more -/
theorem hereF {Q : DK} {p : Addr} {o : O} {L L' : Led} (hp : L p = some o) (hp' : L' p = none) (s : Sub L' L) (h : Q (.fz o) L') : ∃ d' L'', Vg [some (.ref p)] L [some d'] L'' ∧ Q d' L'' :=
  ⟨.fz o, L', .frz p o hp hp' rfl (fun k e q => by
    cases k with
    | zero => simp at q; subst q; exact ⟨_, rfl, .here⟩
    | succ k => simp at q) fun a u e => ⟨u, s a u e, .same u⟩, h⟩
theorem up_comm {p w : Addr} (h : p ≠ w) (M : Led) (o r : O) : up (up M w o) p r = up (up M p r) w o := by
  funext b
  by_cases h1 : b = p
  · subst h1; simp [up, h]
  · by_cases h2 : b = w
    · subst h2; simp [up, h1]
    · simp [up, h1, h2]
/-- a new address is another one -/
theorem fresh_ne {M : Led} {p w : Addr} {o : O} (h : up M p o w = none) : p ≠ w ∧ M w = none := by
  by_cases e : w = p
  · subst e; rw [up_same] at h; cases h
  · rw [up_ne e] at h; exact ⟨Ne.symm e, h⟩
theorem get_other {M : Led} {p w : Addr} {o u : O} (h : p ≠ w) (e : M p = some u) : up M w o p = some u := by rw [up_ne h]; exact e
theorem atI_nat' {α : Type} (xs : List α) (i : Int) (h0 : 0 ≤ i) : atI xs i = xs[i.toNat]? := by
  unfold atI ixN
  rw [if_pos h0]
  by_cases h : i < xs.length
  · rw [if_pos h]; rfl
  · rw [if_neg h]
    exact (List.getElem?_eq_none (by omega)).symm
theorem atI_0 {α : Type} (a : α) (l : List α) : atI (a :: l) 0 = some a := by rw [atI_nat' _ _ (by decide)]; rfl
theorem atI_1 {α : Type} (a b : α) (l : List α) : atI (a :: b :: l) 1 = some b := by rw [atI_nat' _ _ (by decide)]; rfl
theorem atI_2 {α : Type} (a b c : α) (l : List α) : atI (a :: b :: c :: l) 2 = some c := by rw [atI_nat' _ _ (by decide)]; rfl
theorem atI_3 {α : Type} (a b c d : α) (l : List α) : atI (a :: b :: c :: d :: l) 3 = some d := by rw [atI_nat' _ _ (by decide)]; rfl
end Lg

set_option Elab.async false
set_option linter.all false
set_option maxRecDepth 100000
/-! ## The end of a law -/
namespace Lg
open PySem L2
def spLaw (n : Nat) (K : PySem.W.Frag) : L2.Sp := fun vs H Q _ => ∃ (a : Addr) (ns : List Int), vs = [.ref a] ∧ SqL K H a (ns.map V.int) ∧ Only H ∧ ns.length ≤ n ∧ ∀ H', Q (.bl true) H'
theorem spLaw_lift {n : Nat} {G : Gx} {vs : List V} {H : Hp} {Q : VK} {E : XK} (h : spLaw n G.K vs H Q E) : lift G (lawS n) vs H Q E := by
  obtain ⟨a, ns, rfl, hs, ho, hn, q⟩ := h
  refine ⟨[.lsc (ns.map D.int)], ⟨fun _ => none, fun b => ∃ o xs, H b = some (.frz o (.lst xs))⟩, fun d _ => d = .bl true, fun _ _ _ => False, ⟨(fun _ _ h => nomatch h), fun b ⟨o, xs, e⟩ => ⟨rfl, _, e, fun _ z => nomatch z⟩⟩, .cons (.scr ?_ (RVs.ofInts ns)) .nil, ⟨ns, rfl, hn, fun _ => rfl⟩, fun v H' ⟨d, L', _, _, rv, e⟩ => ?_, fun _ _ _ _ _ _ _ _ _ h => h.elim⟩
  · rcases hs with (hs | ⟨o, hs⟩) | hs
    · rcases ho a with z | ⟨o, xs, z⟩
      · rw [hs] at z; cases z
      · rw [hs] at z; cases z
    · exact .inl ⟨⟨o, _, hs⟩, o, hs⟩
    · exact .inr hs
  · subst e
    cases rv
    exact q H'
/-- the goal that k_head leaves, from the law's own text -/
theorem walk_L {l : PySem.W.OpenLaw} {n k : Nat} {q : Program} {loose : List Str} {XP : (Str → Option Value) → Heap → Prop} {YP : World → Heap → Prop} {d : DefRec} {K : Params → PySem.W.Frag} {x : Str}
    (hn : l.most = some n) (hn2 : n ≤ sizeLine) (hdf : d.params.defaults = []) (hr : Room k callerA) (hY : ∀ (w : World) (h : Heap), YP w h → (K w.params).In h)
    (F : ∀ (w : World) (mg : Str → Option Value) (fa : Addr) (h : Heap), (K w.params).In h → h.Ns mainGlobals mg → mg d.name = some (.ref fa) →
      ∃ fd : FuncData, (∀ (s : Shared) (u : Value), BindsTo s fd ⟨[u], []⟩ [(x, u)]) ∧
        ∀ base : Heap, (K w.params).In base → base.Ns mainGlobals mg → FnOk l.prog w (K w.params) mg base (L2.CX l.prog w) k fa fd [x] (lift ⟨K w.params, mg⟩ (lawS n))) :
    PySem.W.WalkO q loose XP YP l.row.toRowW d [] (fun f vs => PySem.call f vs) := by
  refine L2.walk_of (n := n) (k := k) (x := x) (CX := fun w => L2.CX l.prog w) (sp := fun w => spLaw n (K w.params)) hn hn2 hdf hr hY (fun w mg fa h KX G hm => ?_) (fun w H a ns hl ho hS => ⟨a, ns, rfl, hS, ho, hl, fun _ => rfl⟩) ?_
  · obtain ⟨fd, hb, hF⟩ := F w mg fa h KX G hm
    exact ⟨fd, hb, fun base h1 h2 => (hF base h1 h2).imp fun vs H Q E hs => spLaw_lift (G := ⟨K w.params, mg⟩) hs⟩
  · intro w H s e s' ⟨_, _, _, _, _, _, _, _, _, _, _, _, z⟩
    exact z
/-- a def of the text, as the head's facts tell it -/
structure DefAt (K : PySem.W.Frag) (mg : Str → Option Value) (f : Str) (st : Stmt) : Prop where
  ex : ∃ (a : Addr) (fd : FuncData), mg f = some (.ref a) ∧ Fun K f f st a fd
theorem DefAt.mk' {K : PySem.W.Frag} {h : Heap} {mg : Str → Option Value} {f : Str} {st : Stmt} {a : Addr} {oc : Value} {od an : Option Addr} {osl : Array (Option Value)} {kV doc pm cdv ct : Value} (X : K.In h) (G : h.Ns mainGlobals mg)
    (n : PySem.W.nsIn K mainGlobals f = some (some (.ref a))) (l : K.lookup a = some ⟨oc, od, .func (PySem.W.fnOf f f (defArgs st) (defBody st) (defScope st) .none kV doc pm an cdv ct), osl⟩) (c : PySem.W.codeIn K cdv f = true) (k : PySem.W.keepIn K (.ref a) = true) : DefAt K mg f st :=
  ⟨a, _, PySem.W.mg_of X G n, fun_mk l c k⟩
section
variable {P : Program} {w : World} {G : Gx} {base : Heap} {k : Nat} {f : Str} {S : Spec}
theorem DefAt.fn {st : Stmt} {N ps : List Str} {ss : List Lg.S} (F : DefAt G.K G.mg f st) (hsc : FnScope N ps (defScope st)) (ok : okSs ss ⟨N, defScope st, false⟩ (defBody st) = true) (oks : OksSs (tbOf P w G base k) ss)
    (len : ∀ ds L Q x, S ds L Q x → ds.length = ps.length) (vc : ∀ ds L Q x, S ds L Q x → WSs ss (startR N ds) L (endsOf Q) (exOf x))
    (hb : ∀ (kV doc pm : Value) (an : Option Addr) (cdv ct : Value) (us : List Value), us.length = ps.length → bindArgs (PySem.W.fnOf f f (defArgs st) (defBody st) (defScope st) .none kV doc pm an cdv ct) ⟨us, []⟩ = pure (ps.zip us)) : FnL P w G base (k + 3) f S := by
  obtain ⟨a, fd, hm, F⟩ := F.ex
  exact fn_L F hm (F.binds hb) hsc ok oks len vc
theorem gv_int {x : Str} {i : Int} {t : Tok} (h : G.mg x = some (.int i t)) : ∃ u v, G.mg x = some u ∧ RelV v u ∧ ∀ F H, RV G F H (.int i) v := ⟨_, .int i, h, ⟨t, rfl⟩, fun _ _ => .int i⟩
theorem gv_str {x y : Str} {t : Tok} (h : G.mg x = some (.str y t)) : ∃ u v, G.mg x = some u ∧ RelV v u ∧ ∀ F H, RV G F H (.str y) v := ⟨_, .str y, h, ⟨t, rfl⟩, fun _ _ => .str y⟩
theorem gv_gl {x : Str} {a : Addr} (h : G.mg x = some (.ref a)) : ∃ u v, G.mg x = some u ∧ RelV v u ∧ ∀ F H, RV G F H (.gl x) v := ⟨_, .ref a, h, rfl, fun _ _ => .gl h⟩
end
end Lg

set_option Elab.async false
set_option linter.all false
set_option maxRecDepth 100000
/-! ## Lean's types as data: equality, order, in, sorted -/
namespace Lg
open PySem L2
/-- a type of data: what it is for the logic, how it looks, that == is = -/
class Dat (α : Type) where
  d : α → D
  p : α → PyData
  vw : ∀ (L : Led) (a : α), Vw L (d a) (p a)
  eqv : ∀ a b, PyData.eqv (p a) (p b) = true ↔ a = b
  lay : ∀ a, (p a).canLay0 = true
  dep : Nat
  hd : ∀ a, (p a).depth ≤ dep
  nn : ∀ a, PyData.eqv .none (p a) = false ∧ PyData.eqv (p a) .none = false
abbrev d {α : Type} [Dat α] : α → D := Dat.d
/-- a type of data with an order -/
class DatO (α : Type) extends Dat α where
  alk : ∀ a b, PySem.W.alike (p a) (p b) = true
  lt : α → α → Prop
  hlt : ∀ a b, PySem.W.dataLt (p a) (p b) = true ↔ lt a b
  nn2 : ∀ a, p a ≠ .none
instance : DatO Int where
  d := .int
  p := .int
  vw := fun L a => .int a
  eqv := fun a b => by simp [PyData.eqv]
  lay := fun a => rfl
  dep := 0
  hd := fun a => by simp [PyData.depth]
  nn := fun a => ⟨rfl, rfl⟩
  alk := fun a b => rfl
  lt := fun a b => a < b
  hlt := fun a b => by rw [PySem.W.dataLt_int]; simp
  nn2 := fun a => by simp
/-- tuples -/
structure T1 (α : Type) where
  a : α
  deriving DecidableEq
structure T2 (α β : Type) where
  a : α
  b : β
  deriving DecidableEq
structure T3 (α β γ : Type) where
  a : α
  b : β
  c : γ
  deriving DecidableEq
structure T4 (α β γ δ : Type) where
  a : α
  b : β
  c : γ
  e : δ
  deriving DecidableEq
theorem dep1 (x : PyData) : (PyData.tuple [x]).depth = x.depth + 1 := by simp [PyData.depth, PyData.depthAll]
section
variable {α β γ δ : Type}
instance [Dat α] [Dat β] : Dat (T2 α β) where
  d := fun x => .tup [d x.a, d x.b]
  p := fun x => .tuple [Dat.p x.a, Dat.p x.b]
  vw := fun L x => .tup (.cons (Dat.vw L _) (.cons (Dat.vw L _) .nil))
  eqv := fun x y => by cases x; cases y; simp [PyData.eqv, PyData.eqvAll, Dat.eqv]
  lay := fun x => by simp [PyData.canLay0, PyData.canLayAll0, Dat.lay]
  dep := max (Dat.dep α) (Dat.dep β) + 1
  hd := fun x => by
    have h1 := Dat.hd x.a
    have h2 := Dat.hd x.b
    simp only [PyData.depth, PyData.depthAll]
    omega
  nn := fun x => ⟨rfl, rfl⟩
instance [Dat α] [Dat β] [Dat γ] : Dat (T3 α β γ) where
  d := fun x => .tup [d x.a, d x.b, d x.c]
  p := fun x => .tuple [Dat.p x.a, Dat.p x.b, Dat.p x.c]
  vw := fun L x => .tup (.cons (Dat.vw L _) (.cons (Dat.vw L _) (.cons (Dat.vw L _) .nil)))
  eqv := fun x y => by cases x; cases y; simp [PyData.eqv, PyData.eqvAll, Dat.eqv]
  lay := fun x => by simp [PyData.canLay0, PyData.canLayAll0, Dat.lay]
  dep := max (Dat.dep α) (max (Dat.dep β) (Dat.dep γ)) + 1
  hd := fun x => by
    have h1 := Dat.hd x.a
    have h2 := Dat.hd x.b
    have h3 := Dat.hd x.c
    simp only [PyData.depth, PyData.depthAll]
    omega
  nn := fun x => ⟨rfl, rfl⟩
instance [Dat α] [Dat β] [Dat γ] [Dat δ] : Dat (T4 α β γ δ) where
  d := fun x => .tup [d x.a, d x.b, d x.c, d x.e]
  p := fun x => .tuple [Dat.p x.a, Dat.p x.b, Dat.p x.c, Dat.p x.e]
  vw := fun L x => .tup (.cons (Dat.vw L _) (.cons (Dat.vw L _) (.cons (Dat.vw L _) (.cons (Dat.vw L _) .nil))))
  eqv := fun x y => by cases x; cases y; simp [PyData.eqv, PyData.eqvAll, Dat.eqv]
  lay := fun x => by simp [PyData.canLay0, PyData.canLayAll0, Dat.lay]
  dep := max (max (Dat.dep α) (Dat.dep β)) (max (Dat.dep γ) (Dat.dep δ)) + 1
  hd := fun x => by
    have h1 := Dat.hd x.a
    have h2 := Dat.hd x.b
    have h3 := Dat.hd x.c
    have h4 := Dat.hd x.e
    simp only [PyData.depth, PyData.depthAll]
    omega
  nn := fun x => ⟨rfl, rfl⟩
theorem vws_dat [Dat α] (L : Led) : ∀ xs : List α, Vws L (xs.map d) (xs.map Dat.p)
  | [] => .nil
  | x :: xs => .cons (Dat.vw L x) (vws_dat L xs)
theorem eqv_all [Dat α] : ∀ xs ys : List α, PyData.eqvAll (xs.map Dat.p) (ys.map Dat.p) = true ↔ xs = ys
  | [], [] => by simp [PyData.eqvAll]
  | [], y :: ys => by simp [PyData.eqvAll]
  | x :: xs, [] => by simp [PyData.eqvAll]
  | x :: xs, y :: ys => by simp [PyData.eqvAll, Dat.eqv, eqv_all xs ys]
theorem lay_all [Dat α] : ∀ xs : List α, PyData.canLayAll0 (xs.map Dat.p) = true
  | [] => rfl
  | x :: xs => by simp [PyData.canLayAll0, Dat.lay, lay_all xs]
theorem dep_all [Dat α] : ∀ xs : List α, PyData.depthAll (xs.map Dat.p) ≤ Dat.dep α
  | [] => by simp [PyData.depthAll]
  | x :: xs => by
    have h1 := Dat.hd x
    have h2 := dep_all xs
    simp only [List.map_cons, PyData.depthAll]
    omega
/-- a list that is written no more -/
instance [Dat α] : Dat (List α) where
  d := fun xs => .fz (.lst (xs.map d))
  p := fun xs => .list (xs.map Dat.p)
  vw := fun L xs => .fz (vws_dat L xs)
  eqv := fun x y => by simp [PyData.eqv, eqv_all]
  lay := fun x => by simp [PyData.canLay0, lay_all]
  dep := Dat.dep α + 1
  hd := fun x => by
    have h2 := dep_all x
    simp only [PyData.depth]
    omega
  nn := fun x => ⟨rfl, rfl⟩
/-- a tuple of any length -/
structure Tup (α : Type) where
  l : List α
  deriving DecidableEq
instance [Dat α] : Dat (Tup α) where
  d := fun xs => .tup (xs.l.map d)
  p := fun xs => .tuple (xs.l.map Dat.p)
  vw := fun L xs => .tup (vws_dat L xs.l)
  eqv := fun x y => by cases x; cases y; simp [PyData.eqv, eqv_all]
  lay := fun x => by simp [PyData.canLay0, lay_all]
  dep := Dat.dep α + 1
  hd := fun x => by
    have h2 := dep_all x.l
    simp only [PyData.depth]
    omega
  nn := fun x => ⟨rfl, rfl⟩
/-- None or a value -/
structure Opt (α : Type) where
  o : Option α
  deriving DecidableEq
def optD [Dat α] : Option α → D
  | none => .non
  | some a => d a
/-- a type whose data are those of another one -/
abbrev Dat.of [Dat β] (f : α → β) (inj : ∀ a b, f a = f b → a = b) : Dat α where
  d := fun a => Lg.d (f a)
  p := fun a => Dat.p (f a)
  vw := fun L a => Dat.vw L _
  eqv := fun a b => by rw [Dat.eqv]; exact ⟨inj a b, fun h => by rw [h]⟩
  lay := fun a => Dat.lay _
  dep := Dat.dep β
  hd := fun a => Dat.hd _
  nn := fun a => Dat.nn _

/-! ### equality, in -/
theorem shaped_dat [Dat α] (h : Dat.dep α ≤ 64) (a : α) : SeqAt.shaped (Dat.p a) = true := by
  unfold SeqAt.shaped
  have := Dat.hd a
  simp [Dat.lay]
  omega
theorem eqv_dec [Dat α] [DecidableEq α] (a b : α) : PyData.eqv (Dat.p a) (Dat.p b) = decide (a = b) := by
  rw [Bool.eq_iff_iff, Dat.eqv]; simp
theorem eqW_dat [Dat α] [DecidableEq α] {L : Led} {Q : Bool → Prop} (a b : α) (h : Q (decide (a = b))) (hd : Dat.dep α ≤ 64 := by decide) : eqW (d a) (d b) L Q := by
  have gen : ∃ x y, Vw L (d a) x ∧ Vw L (d b) y ∧ SeqAt.shaped x = true ∧ SeqAt.shaped y = true ∧ Q (PyData.eqv x y) := ⟨_, _, Dat.vw L a, Dat.vw L b, shaped_dat hd a, shaped_dat hd b, by rw [eqv_dec]; exact h⟩
  unfold eqW
  split
  · rename_i i j e1 e2
    obtain ⟨x, y, h1, h2, _, _, q⟩ := gen
    rw [e1] at h1; rw [e2] at h2
    cases h1; cases h2
    have e : PyData.eqv (.int i) (.int j) = decide (i = j) := by rw [Bool.eq_iff_iff]; simp [PyData.eqv]
    rw [e] at q; exact q
  · rename_i i j e1 e2
    obtain ⟨x, y, h1, h2, _, _, q⟩ := gen
    rw [e1] at h1; rw [e2] at h2
    cases h1; cases h2
    have e : PyData.eqv (.str i) (.str j) = decide (i = j) := by rw [Bool.eq_iff_iff]; simp [PyData.eqv]
    rw [e] at q; exact q
  · exact gen
/-- the same with a decision at hand -/
theorem eqW_bool [Dat α] {L : Led} {Q : Bool → Prop} (a b : α) (c : Bool) (e : c = true ↔ a = b) (h : Q c) (hd : Dat.dep α ≤ 64 := by decide) : eqW (d a) (d b) L Q := by
  have : DecidableEq α := fun x y => Classical.propDecidable _
  refine eqW_dat a b ?_ hd
  have : decide (a = b) = c := by
    rw [Bool.eq_iff_iff, e]; simp
  rw [this]; exact h
theorem eqW_same [Dat α] {L : Led} {Q : Bool → Prop} (a : α) (h : Q true) (hd : Dat.dep α ≤ 64 := by decide) : eqW (d a) (d a) L Q := eqW_bool a a true (by simp) h hd
theorem lt_tup {x y : PyData} (h : PySem.W.alike x y = true) (xs ys : List PyData) : PySem.W.dataLt (.tuple (x :: xs)) (.tuple (y :: ys)) = true ↔ if PyData.eqv x y = true then PySem.W.dataLt (.tuple xs) (.tuple ys) = true else PySem.W.dataLt x y = true := by
  rw [PySem.W.dataLt_tuple, PySem.W.dataLt_cons h, PySem.W.dataLt_tuple]
  split <;> rfl
theorem lt_nil0 : PySem.W.dataLt (.tuple []) (.tuple []) = false := by decide
theorem lt_cons [DatO α] (a b : α) (xs ys : List PyData) : PySem.W.dataLt (.tuple (Dat.p a :: xs)) (.tuple (Dat.p b :: ys)) = true ↔ (DatO.lt a b ∧ a ≠ b) ∨ (a = b ∧ PySem.W.dataLt (.tuple xs) (.tuple ys) = true) := by
  rw [lt_tup (DatO.alk a b)]
  by_cases h : a = b
  · rw [if_pos ((Dat.eqv a b).mpr h)]; simp [h]
  · rw [if_neg (fun z => h ((Dat.eqv a b).mp z)), DatO.hlt]; simp [h]
instance [DatO α] [DatO β] : DatO (T2 α β) where
  alk := fun x y => by simp [Dat.p, PySem.W.alike, PySem.W.alikeAll, DatO.alk]
  lt := fun x y => (DatO.lt x.a y.a ∧ x.a ≠ y.a) ∨ (x.a = y.a ∧ DatO.lt x.b y.b ∧ x.b ≠ y.b)
  hlt := fun x y => by
    simp only [Dat.p]
    rw [lt_cons, lt_cons, lt_nil0]; simp
  nn2 := fun x => by simp [Dat.p]
instance [DatO α] [DatO β] [DatO γ] : DatO (T3 α β γ) where
  alk := fun x y => by simp [Dat.p, PySem.W.alike, PySem.W.alikeAll, DatO.alk]
  lt := fun x y => (DatO.lt x.a y.a ∧ x.a ≠ y.a) ∨ (x.a = y.a ∧ ((DatO.lt x.b y.b ∧ x.b ≠ y.b) ∨ (x.b = y.b ∧ DatO.lt x.c y.c ∧ x.c ≠ y.c)))
  hlt := fun x y => by
    simp only [Dat.p]
    rw [lt_cons, lt_cons, lt_cons, lt_nil0]; simp
  nn2 := fun x => by simp [Dat.p]
/-- x < y, of a type with an order -/
theorem ordW_dat [DatO α] {L : Led} {Q : PyData → PyData → Prop} (a b : α) (h : Q (Dat.p a) (Dat.p b)) (hd : Dat.dep α ≤ 64 := by decide) : ordW (d a) (d b) L Q :=
  ⟨_, _, Dat.vw L a, Dat.vw L b, DatO.alk a b, DatO.nn2 a, shaped_dat hd a, h⟩
theorem dataLt_dec [DatO α] (a b : α) (c : Bool) (e : c = true ↔ DatO.lt a b) : PySem.W.dataLt (Dat.p a) (Dat.p b) = c := by
  rw [Bool.eq_iff_iff, e, DatO.hlt]
/-- sorted, of a type with an order -/
theorem sort_dat [DatO α] {L : Led} {Q : DK} (xs : List α) (le : α → α → Bool) (hle : ∀ a b, le a b = true ↔ ¬ DatO.lt b a) (hs : PySem.W.Sortable (xs.map Dat.p)) (hl : xs.length ≤ line) (h : newO L (.lst ((xs.mergeSort le).map d)) Q) (hd : Dat.dep α ≤ 64 := by decide) : sortW (xs.map d) L Q := by
  have e : PySem.W.dataLe false (Dat.p (α := α)) = le := by
    funext a b
    show (!PySem.W.dataLt (Dat.p b) (Dat.p a)) = le a b
    rw [Bool.eq_iff_iff, hle]
    simp only [Bool.not_eq_true', ← DatO.hlt]
    cases PySem.W.dataLt (Dat.p b) (Dat.p a) <;> simp
  refine ⟨α, xs, d, Dat.p, rfl, vws_dat L xs, PySem.W.AllAlike.of DatO.alk, hs, fun c _ => shaped_dat hd c, by simp [hl], ?_⟩
  rw [e]; exact h
def leO [DatO α] (a b : α) : Bool := !PySem.W.dataLt (Dat.p b) (Dat.p a)
theorem leO_iff [DatO α] (a b : α) : leO a b = true ↔ ¬ DatO.lt b a := by
  unfold leO
  rw [← DatO.hlt]
  cases PySem.W.dataLt (Dat.p b) (Dat.p a) <;> simp
theorem sort_datO [DatO α] {L : Led} {Q : DK} (xs : List α) (hs : PySem.W.Sortable (xs.map Dat.p)) (hl : xs.length ≤ line) (h : newO L (.lst ((xs.mergeSort leO).map d)) Q) (hd : Dat.dep α ≤ 64 := by decide) : sortW (xs.map d) L Q :=
  sort_dat xs leO leO_iff hs hl h hd
theorem sorted_same [DatO α] {xs : List α} (h : xs.Pairwise fun a b => ¬ DatO.lt b a) : xs.mergeSort leO = xs :=
  List.mergeSort_of_pairwise (h.imp fun h => (leO_iff _ _).mpr h)
theorem sort_int {L : Led} {Q : DK} (xs : List Int) (hl : xs.length ≤ line) (h : newO L (.lst ((xs.mergeSort (fun a b => decide (a ≤ b))).map D.int)) Q) : sortW (xs.map D.int) L Q :=
  sort_dat (α := Int) xs (fun a b => decide (a ≤ b)) (fun a b => by simp [DatO.lt]) (PySem.W.Sortable.others fun b => ⟨by simp [Dat.p], by simp [Dat.p]⟩) hl h
end
end Lg

set_option Elab.async false
set_option linter.all false
set_option maxRecDepth 100000
set_option maxHeartbeats 4000000
namespace Lib
open PySem L2 Lg
local macro_rules | `(tactic| walk_at "ev") => `(tactic| (try simp only [WS, W, WA, WB, WBs, WO, WI, WT, WTs, binW, cmpW, ixW, slW, truW, biW, meW, meT, setIW, newW, lstW, lstM, itemsW, isA, isNonD, setsAll, startR, endsOf, List.map_cons, List.map_nil, List.length_cons, List.length_nil, List.cons_append, List.nil_append, List.append_nil, List.replicate_succ, List.replicate_zero, List.getElem?_cons_succ, List.getElem?_cons_zero, List.set_cons_succ, List.set_cons_zero, List.foldr_cons, List.foldr_nil, Nat.reduceAdd, Nat.reduceSub, IF_true, IF_false, D.int.injEq, D.bl.injEq, D.str.injEq, D.ref.injEq, D.fz.injEq, O.lst.injEq, O.ins.injEq, O.sli.injEq, O.dct.injEq, exists_eq_left', exists_eq_left, Bool.not_true, Bool.not_false, true_and, and_true, Option.some.injEq, up_same, eqW_int, eqW_str, atI_0, atI_1, atI_2, atI_3]))
def numB (d : D) (lo hi : Int) : Bool := match d with
  | .int i => decide (lo ≤ i) && decide (i ≤ hi)
  | _ => false
def okNum : D → Bool
  | .int _ => true | .bl _ => true | .str _ => true | .non => true | .tup _ => true
  | _ => false
def S_is_number : Lg.Spec := fun ds L Q _ => ∃ v lo hi, ds = [v, .int lo, .int hi] ∧ okNum v = true ∧ Q (.bl (numB v lo hi)) L
def rowO (s : List Int) (i j k : Int) : O := .lst [.lsc (s.map D.int), .int i, .int j, .int k]
def S__law_taken : Lg.Spec := fun ds L Q _ => ∃ a s i j k many, ds = [.ref a, .int many] ∧ L a = some (rowO s i j k) ∧ 0 ≤ i ∧ 0 < many ∧ many < 18446744073709551616 ∧ ∀ r i' j' k', 0 ≤ r → r < many → 0 ≤ i' → Q (.int r) (up L a (rowO s i' j' k'))
def S_is_plain_number : Lg.Spec := fun ds L Q _ => ∃ a b c, ds = [.tup [.int a, .int b, .int c]] ∧ 0 ≤ a ∧ 0 ≤ b ∧ 0 ≤ c ∧ Q (.bl true) L
def S_rooms : Lg.Spec := fun ds L Q _ => ∃ m n : Nat, ds = [.int m, .int n] ∧ m ≤ 20 ∧ n ≤ 20 ∧ Q (.tup [.int (2 ^ m), .int (2 ^ n)]) L
def S_packed : Lg.Spec := fun ds L Q _ => ∃ (a b c : Int) (m n : Nat), ds = [.tup [.int a, .int b, .int c], .int m, .int n] ∧ m ≤ 20 ∧ n ≤ 20 ∧ 0 ≤ a ∧ 0 ≤ b ∧ 0 ≤ c ∧ a ≤ 1000000000000000 ∧ b < 2 ^ m ∧ c < 2 ^ n ∧ Q (.int ((a * 2 ^ m + b) * 2 ^ n + c)) L
def S_unpacked : Lg.Spec := fun ds L Q _ => ∃ (a b c : Int) (m n : Nat), ds = [.int ((a * 2 ^ m + b) * 2 ^ n + c), .int m, .int n] ∧ m ≤ 20 ∧ n ≤ 20 ∧ 0 ≤ a ∧ 0 ≤ b ∧ 0 ≤ c ∧ a ≤ 1000000000000000 ∧ b < 2 ^ m ∧ c < 2 ^ n ∧ Q (.tup [.int a, .int b, .int c]) L
def N_is_number : List Str := ["value", "smallest", "largest"]
def P_is_number : List Str := ["value", "smallest", "largest"]
def ir_is_number : List Lg.S := .ret (.and (.bi .isInt [(.v 0)]) (.and (.not (.bi .isBool [(.v 0)])) (.chain .LtE .LtE (.v 1) (.v 0) (.v 2)))) :: []

def N_is_plain_number : List Str := ["value", "part"]
def P_is_plain_number : List Str := ["value"]
def tl_is_plain_number_1 : List Lg.S := .ret (.bi .all [(.lc (.and (.bi .isInt [(.v 1)]) (.and (.not (.bi .isBool [(.v 1)])) (.cmp .GtE (.v 1) (.c (.int 0))))) (.n 1) (.seq (.v 0)) [] [("part", 1)])]) :: []
def ir_is_plain_number : List Lg.S := .ife (.or (.not (.e (.bi .isTuple [(.v 0)]))) (.cmp .NotEq (.bi .len [(.v 0)]) (.c (.int 3)))) [.ret (.c (.bl false))] [] :: tl_is_plain_number_1

def N_rooms : List Str := ["mark_width", "counter_width", "width"]
def P_rooms : List Str := ["mark_width", "counter_width"]
def ir_rooms_1 : List Lg.S := .ife (.not (.e (.call "is_number" S_is_number [(.v 2), (.c (.int 0)), (.g "MAX_WIDTH" (.int 20))]))) [.nev] [] :: []
def tl_rooms_1 : List Lg.S := .ret (.tup [(.bin .LShift (.c (.int 1)) (.v 0)), (.bin .LShift (.c (.int 1)) (.v 1))]) :: []
def ir_rooms : List Lg.S := .for_ (.n 2) (.seq (.tup [(.v 0), (.v 1)])) ir_rooms_1 :: tl_rooms_1

def N_packed : List Str := ["number", "mark_width", "counter_width", "marks", "counters", "reading", "mark", "counter"]
def P_packed : List Str := ["number", "mark_width", "counter_width"]
def tl_packed_4 : List Lg.S := .ret (.bin .Add (.bin .Mult (.bin .Add (.bin .Mult (.v 5) (.v 3)) (.v 6)) (.v 4)) (.v 7)) :: []
def tl_packed_3 : List Lg.S := .ife (.or (.cmp .Gt (.v 5) (.g "MAX_READING" (.int 1000000000000000))) (.or (.cmp .GtE (.v 6) (.v 3)) (.cmp .GtE (.v 7) (.v 4)))) [.nev] [] :: tl_packed_4
def tl_packed_2 : List Lg.S := .asg (.tu [(.n 5), (.n 6), (.n 7)]) (.v 0) :: tl_packed_3
def tl_packed_1 : List Lg.S := .ife (.not (.e (.call "is_plain_number" S_is_plain_number [(.v 0)]))) [.nev] [] :: tl_packed_2
def ir_packed : List Lg.S := .asg (.tu [(.n 3), (.n 4)]) (.call "rooms" S_rooms [(.v 1), (.v 2)]) :: tl_packed_1

def N_unpacked : List Str := ["value", "mark_width", "counter_width", "rest", "marks", "counters"]
def P_unpacked : List Str := ["value", "mark_width", "counter_width"]
def tl_unpacked_3 : List Lg.S := .ret (.tup [(.bin .FloorDiv (.v 3) (.v 4)), (.bin .Sub (.v 3) (.bin .Mult (.bin .FloorDiv (.v 3) (.v 4)) (.v 4))), (.bin .Sub (.v 0) (.bin .Mult (.v 3) (.v 5)))]) :: []
def tl_unpacked_2 : List Lg.S := .asg (.n 3) (.bin .FloorDiv (.v 0) (.v 5)) :: tl_unpacked_3
def tl_unpacked_1 : List Lg.S := .ife (.not (.e (.call "is_number" S_is_number [(.v 0), (.c (.int 0)), (.bin .Sub (.bin .Mult (.bin .Mult (.bin .Add (.g "MAX_READING" (.int 1000000000000000)) (.c (.int 1))) (.v 4)) (.v 5)) (.c (.int 1)))]))) [.nev] [] :: tl_unpacked_2
def ir_unpacked : List Lg.S := .asg (.tu [(.n 4), (.n 5)]) (.call "rooms" S_rooms [(.v 1), (.v 2)]) :: tl_unpacked_1

def N__law_taken : List Str := ["_law_row", "_law_many", "_law_cell", "_law_found"]
def P__law_taken : List Str := ["_law_row", "_law_many"]
def tl__law_taken_1_2 : List Lg.S := .ret (.v 3) :: []
def tl__law_taken_1_1 : List Lg.S := .setI (.v 0) (.c (.int 3)) (.bin .FloorDiv (.ix (.v 0) (.c (.int 3))) (.v 1)) :: tl__law_taken_1_2
def ir__law_taken_1 : List Lg.S := .asg (.n 3) (.bin .Mod (.bi .int [(.ix (.v 0) (.c (.int 3)))]) (.v 1)) :: tl__law_taken_1_1
def tl__law_taken_2_1 : List Lg.S := .ret (.bin .Mod (.bi .int [(.bin .FloorDiv (.ix (.v 0) (.c (.int 2))) (.c (.int 7)))]) (.v 1)) :: []
def ir__law_taken_2 : List Lg.S := .setI (.v 0) (.c (.int 2)) (.bin .Mod (.bi .int [(.bin .Add (.bin .Mult (.ix (.v 0) (.c (.int 2))) (.c (.int 48271))) (.c (.int 11)))]) (.c (.int 2147483647))) :: tl__law_taken_2_1
def tl__law_taken_6 : List Lg.S := .ret (.bin .Mod (.bi .int [(.v 2)]) (.v 1)) :: []
def tl__law_taken_5 : List Lg.S := .ife (.cmp .GtE (.v 2) (.bin .Pow (.c (.int 10)) (.c (.int 18)))) [.setI (.v 0) (.c (.int 3)) (.bin .FloorDiv (.v 2) (.v 1))] [] :: tl__law_taken_6
def tl__law_taken_4 : List Lg.S := .setI (.v 0) (.c (.int 2)) (.bin .Mod (.bi .int [(.bin .Add (.bin .Add (.bin .Mult (.ix (.v 0) (.c (.int 2))) (.c (.int 48271))) (.v 2)) (.c (.int 11)))]) (.c (.int 2147483647))) :: tl__law_taken_5
def tl__law_taken_3 : List Lg.S := .asg (.n 2) (.ix (.ix (.v 0) (.c (.int 0))) (.bin .Sub (.ix (.v 0) (.c (.int 1))) (.c (.int 1)))) :: tl__law_taken_4
def tl__law_taken_2 : List Lg.S := .ife (.cmp .Gt (.ix (.v 0) (.c (.int 1))) (.bi .len [(.ix (.v 0) (.c (.int 0)))])) ir__law_taken_2 [] :: tl__law_taken_3
def tl__law_taken_1 : List Lg.S := .setI (.v 0) (.c (.int 1)) (.bin .Add (.ix (.v 0) (.c (.int 1))) (.c (.int 1))) :: tl__law_taken_2
def ir__law_taken : List Lg.S := .ife (.cmp .Gt (.ix (.v 0) (.c (.int 3))) (.c (.int 0))) ir__law_taken_1 [] :: tl__law_taken_1


theorem vc_is_number (ds : List D) (L : Led) (Q : DK) (x : Ex) (h : S_is_number ds L Q x) : WSs ir_is_number (startR N_is_number ds) L (endsOf Q) (exOf x) := by
  obtain ⟨v, lo, hi, rfl, ok, q⟩ := h
  refine stp fun K hK => ?_
  simp only [startR, N_is_number]
  cases v <;> simp [okNum] at ok <;> walk_at "ev" <;> try simp
  case int i =>
    simp only [numB] at q
    refine ⟨fun h => hereL ?_, fun h => hereL ?_⟩
    · simp at h; simpa [h] using q
    · simp at h; simpa [show ¬ lo ≤ i by omega] using q
  all_goals exact hereL q

theorem vc__law_taken (ds : List D) (L : Led) (Q : DK) (x : Ex) (h : S__law_taken ds L Q x) : WSs ir__law_taken (startR N__law_taken ds) L (endsOf Q) (exOf x) := by
  obtain ⟨a, s, i, j, k, many, rfl, hl, hi, hm, hm2, q⟩ := h
  have hmod : ∀ y : Int, 0 ≤ y % many ∧ y % many < many := fun y => ⟨Int.emod_nonneg _ (by omega), Int.emod_lt_of_pos _ hm⟩
  refine stp fun K hK => ?_
  simp only [startR, N__law_taken]
  walk_at "ev"
  try simp [hl, rowO, atI, ixN, up_same]
  refine ⟨fun h => ?_, fun h => ?_⟩
  · refine stp fun K2 hK2 => ?_
    walk_at "ev"
    try simp [hl, rowO, atI, ixN, hm, up_same]
    refine hK2 _ _ (stp fun K3 hK3 => ?_)
    walk_at "ev"
    try simp [hl, rowO, atI, ixN, hm, hm2, up_same]
    refine hK3 _ _ (stp fun K4 hK4 => ?_)
    walk_at "ev"
    try simp [up_same]
    exact hereL (q _ _ _ _ (hmod k).1 (hmod k).2 hi)
  · refine stpN (hK _ _ (stp fun K1 hK1 => ?_))
    walk_at "ev"
    try simp [hl, rowO, atI, ixN, up_same]
    refine hK1 _ _ (stp fun K2 hK2 => ?_)
    walk_at "ev"
    try simp [rowO, atI, ixN, up_same]
    refine ⟨fun h2 => ?_, fun h2 => ?_⟩
    · refine stp fun K3 hK3 => ?_
      walk_at "ev"
      try simp [up_up, rowO, atI, ixN, up_same]
      refine hK3 _ _ (stp fun K4 hK4 => ?_)
      walk_at "ev"
      try simp [up_up, rowO, atI, ixN, hm, up_same]
      exact hereL (q _ _ _ _ (hmod _).1 (hmod _).2 (by omega))
    · refine stpN (hK2 _ _ (stp fun K3 hK3 => ?_))
      simp at h2
      have hlt : i.toNat < s.length := by omega
      walk_at "ev"
      try simp [rowO, atI, ixN, hi, show i < s.length by omega, hlt, up_same]
      refine hK3 _ _ (stp fun K4 hK4 => ?_)
      walk_at "ev"
      try simp [up_up, rowO, atI, ixN, up_same]
      refine hK4 _ _ (stp fun K5 hK5 => ?_)
      walk_at "ev"
      try simp [up_up, rowO, atI, ixN, up_same]
      refine ⟨fun h3 => ?_, fun h3 => ?_⟩
      · refine stp fun K6 hK6 => ?_
        walk_at "ev"
        try simp [up_up, rowO, atI, ixN, hm, hm2, up_same]
        refine hK6 _ _ (stpN (hK5 _ _ (stp fun K7 hK7 => ?_)))
        walk_at "ev"
        try simp [hm, up_same]
        exact hereL (q _ _ _ _ (hmod _).1 (hmod _).2 (by omega))
      · refine stpN (hK5 _ _ (stp fun K7 hK7 => ?_))
        walk_at "ev"
        try simp [hm, up_same]
        exact hereL (q _ _ _ _ (hmod _).1 (hmod _).2 (by omega))

theorem vc_is_plain_number (ds : List D) (L : Led) (Q : DK) (x : Ex) (h : S_is_plain_number ds L Q x) : WSs ir_is_plain_number (startR N_is_plain_number ds) L (endsOf Q) (exOf x) := by
  obtain ⟨a, b, c, rfl, ha, hb, hc, q⟩ := h
  refine stp fun K hK => ?_
  simp only [startR, N_is_plain_number]
  walk_at "ev"
  try simp [eqW, up_same]
  refine stpN (hK _ _ (stp fun K2 hK2 => ?_))
  walk_at "ev"
  try simp [up_same]
  refine lc_pure (fun y => some (.bl true)) (by simp [line]) trivial (fun y hy J hJ => ?_) (.inl ?_)
  · simp at hy
    rcases hy with rfl | rfl | rfl <;> (walk_at "ev"; simp [*])
  · simp [blsOf]
    exact hereL q
theorem vc_rooms (ds : List D) (L : Led) (Q : DK) (x : Ex) (h : S_rooms ds L Q x) : WSs ir_rooms (startR N_rooms ds) L (endsOf Q) (exOf x) := by
  obtain ⟨m, n, rfl, hm, hn, q⟩ := h
  refine stp fun K hK => ?_
  simp only [startR, N_rooms]
  walk_at "ev"
  try simp [up_same]
  refine ⟨by decide, for_xs (fun i r' L' => L' = L ∧ ∃ v, r' = [some (.int m), some (.int n), v]) ⟨rfl, _, rfl⟩ (fun _ _ _ _ _ => trivial) ?_ ?_⟩
  · rintro i y r' L' hy ⟨rfl, v, rfl⟩
    have hy' : ∃ k : Nat, y = .int k ∧ k ≤ 20 := by
      match i, hy with
      | 0, hy => exact ⟨m, by simpa using hy.symm, hm⟩
      | 1, hy => exact ⟨n, by simpa using hy.symm, hn⟩
    obtain ⟨k, rfl, hk⟩ := hy'
    try walk_at "ev"
    try simp
    refine stp fun K3 hK3 => ?_
    walk_at "ev"
    try simp [up_same]
    refine ⟨_, _, _, rfl, rfl, ?_⟩
    try walk_at "ev"
    try simp [numB, show (k : Int) ≤ 20 by omega]
    exact stpN (hK3 _ _ (stpN (turn_nx ⟨rfl, _, rfl⟩)))
  · rintro r' L' ⟨rfl, v, rfl⟩
    refine hK _ _ (stp fun K4 hK4 => ?_)
    walk_at "ev"
    try simp [up_same]
    refine ⟨powI (by omega) (by omega) (by decide), powI (by omega) (by omega) (by decide), by decide, ?_⟩
    exact hereL q

theorem pw_pos (m : Nat) : (0 : Int) < 2 ^ m := Int.pow_pos (by decide)
theorem pw_le {m : Nat} (h : m ≤ 20) : (2 : Int) ^ m ≤ 1048576 := by
  have : (2 : Nat) ^ m ≤ 2 ^ 20 := Nat.pow_le_pow_right (by decide) h
  have e : ((2 ^ m : Nat) : Int) = (2 : Int) ^ m := by simp
  omega
theorem vc_packed (ds : List D) (L : Led) (Q : DK) (x : Ex) (h : S_packed ds L Q x) : WSs ir_packed (startR N_packed ds) L (endsOf Q) (exOf x) := by
  obtain ⟨a, b, c, m, n, rfl, hm, hn, ha, hb, hc, ha', hb', hc', q⟩ := h
  have h1 := pw_pos m
  have h2 := pw_pos n
  have h3 := pw_le hm
  have h4 := pw_le hn
  refine stp fun K hK => ?_
  simp only [startR, N_packed]
  walk_at "ev"
  try simp [up_same]
  refine ⟨m, n, rfl, hm, hn, ?_⟩
  try walk_at "ev"
  try simp
  refine hK _ _ (stp fun K2 hK2 => ?_)
  walk_at "ev"
  try simp [up_same]
  refine ⟨a, b, c, rfl, ha, hb, hc, ?_⟩
  try walk_at "ev"
  try simp
  refine stpN (hK2 _ _ (stp fun K3 hK3 => ?_))
  walk_at "ev"
  try simp [up_same]
  refine hK3 _ _ (stp fun K4 hK4 => ?_)
  walk_at "ev"
  try simp [show ¬ 1000000000000000 < a by omega, show ¬ (2 ^ m ≤ b) by omega, show ¬ (2 ^ n ≤ c) by omega, up_same]
  refine stpN (hK4 _ _ (stp fun K5 hK5 => ?_))
  walk_at "ev"
  try simp [up_same]
  refine ⟨mulR (by omega) (by omega), mulR (by omega) (by omega), ?_⟩
  exact hereL q
theorem unpk {a b c : Int} {M N : Int} (hM : 0 < M) (hN : 0 < N) (hb : 0 ≤ b) (hb' : b < M) (hc : 0 ≤ c) (hc' : c < N) :
    ((a * M + b) * N + c) / N = a * M + b ∧ (a * M + b) / M = a := by
  constructor
  · rw [Int.add_comm, Int.add_mul_ediv_right _ _ (by omega), Int.ediv_eq_zero_of_lt hc hc']; omega
  · rw [Int.add_comm, Int.add_mul_ediv_right _ _ (by omega), Int.ediv_eq_zero_of_lt hb hb']; omega
theorem unpk_le {a b c M N : Int} (hM : 0 < M) (hN : 0 < N) (ha : 0 ≤ a) (ha' : a ≤ 1000000000000000) (hb : 0 ≤ b) (hb' : b < M) (hc : 0 ≤ c) (hc' : c < N) :
    0 ≤ (a * M + b) * N + c ∧ (a * M + b) * N + c ≤ 1000000000000001 * M * N - 1 := by
  have e1 : 0 ≤ a * M := Int.mul_nonneg ha (by omega)
  have e2 : 0 ≤ (a * M + b) * N := Int.mul_nonneg (by omega) (by omega)
  have e3 : a * M ≤ 1000000000000000 * M := Int.mul_le_mul_of_nonneg_right ha' (by omega)
  have e4 : a * M + b + 1 ≤ 1000000000000001 * M := by omega
  have e5 : (a * M + b + 1) * N ≤ 1000000000000001 * M * N := Int.mul_le_mul_of_nonneg_right e4 (by omega)
  rw [Int.add_mul] at e5
  omega
theorem vc_unpacked (ds : List D) (L : Led) (Q : DK) (x : Ex) (h : S_unpacked ds L Q x) : WSs ir_unpacked (startR N_unpacked ds) L (endsOf Q) (exOf x) := by
  obtain ⟨a, b, c, m, n, rfl, hm, hn, ha, hb, hc, ha', hb', hc', q⟩ := h
  have h1 := pw_pos m
  have h2 := pw_pos n
  have h3 := pw_le hm
  have h4 := pw_le hn
  obtain ⟨u1, u2⟩ := unpk (a := a) h1 h2 hb hb' hc hc'
  obtain ⟨l1, l2⟩ := unpk_le h1 h2 ha (by omega) hb hb' hc hc'
  refine stp fun K hK => ?_
  simp only [startR, N_unpacked]
  walk_at "ev"
  try simp [up_same]
  refine ⟨m, n, rfl, hm, hn, ?_⟩
  try walk_at "ev"
  try simp
  refine hK _ _ (stp fun K2 hK2 => ?_)
  walk_at "ev"
  try simp [up_same]
  refine ⟨mulR (by omega) (by omega), mulR (by omega) (by omega), _, _, _, rfl, rfl, ?_⟩
  try walk_at "ev"
  try simp [numB, l1, l2]
  refine stpN (hK2 _ _ (stp fun K3 hK3 => ?_))
  walk_at "ev"
  try simp [u1, up_same]
  refine ⟨⟨by omega, by omega⟩, hK3 _ _ (stp fun K4 hK4 => ?_)⟩
  walk_at "ev"
  try simp [u2, up_same]
  refine ⟨⟨by omega, by omega⟩, mulR (by omega) (by omega), mulR (by omega) (by omega), by decide, ?_⟩
  rw [show a * 2 ^ m + b - a * 2 ^ m = b by omega, show (a * 2 ^ m + b) * 2 ^ n + c - (a * 2 ^ m + b) * 2 ^ n = c by omega]
  exact hereL q
end Lib

set_option Elab.async false
set_option linter.all false
set_option maxRecDepth 100000
set_option maxHeartbeats 4000000
namespace K53
open PySem L2 Lg Lib
local macro_rules | `(tactic| walk_at "ev") => `(tactic| (try simp only [WS, W, WA, WB, WBs, WO, WI, WT, WTs, binW, cmpW, ixW, slW, truW, biW, meW, meT, setIW, newW, lstW, lstM, itemsW, isA, isNonD, setsAll, startR, endsOf, List.map_cons, List.map_nil, List.length_cons, List.length_nil, List.cons_append, List.nil_append, List.append_nil, List.replicate_succ, List.replicate_zero, List.getElem?_cons_succ, List.getElem?_cons_zero, List.set_cons_succ, List.set_cons_zero, List.foldr_cons, List.foldr_nil, Nat.reduceAdd, Nat.reduceSub, IF_true, IF_false, D.int.injEq, D.bl.injEq, D.str.injEq, D.ref.injEq, D.fz.injEq, O.lst.injEq, O.ins.injEq, O.sli.injEq, O.dct.injEq, exists_eq_left', exists_eq_left, Bool.not_true, Bool.not_false, true_and, and_true, Option.some.injEq, up_same, eqW_int, eqW_str, atI_0, atI_1, atI_2, atI_3]))
def N_law : List Str := ["_law_script", "_law_row", "_law_turn", "_law_k", "_law_values", "_law_numbers", "_law_base", "_law_one", "_law_two", "_law_size", "_law_later", "_law_swapped", "_law_wide", "_law_value", "_law_here", "_law_next_one", "_law_number"]
def P_law : List Str := ["_law_script"]
def tl_law_2_7 : List Lg.S := .ife (.or (.cmp .NotEq (.call "unpacked" S_unpacked [(.v 12), (.bin .Add (.v 7) (.c (.int 5))), (.bin .Add (.v 8) (.c (.int 5)))]) (.ix (.v 5) (.v 3))) (.cmp .Lt (.v 12) (.ix (.v 4) (.v 3)))) [.ret (.c (.bl false))] [] :: []
def tl_law_2_6 : List Lg.S := .asg (.n 12) (.call "packed" S_packed [(.ix (.v 5) (.v 3)), (.bin .Add (.v 7) (.c (.int 5))), (.bin .Add (.v 8) (.c (.int 5)))]) :: tl_law_2_7
def tl_law_2_5 : List Lg.S := .ife (.cmp .NotEq (.call "packed" S_packed [(.bin .Add (.tup [(.c (.int 0))]) (.sl (.ix (.v 5) (.v 3)) (some (.c (.int 1))) none)), (.v 7), (.v 8)]) (.bin .Sub (.ix (.v 4) (.v 3)) (.bin .Mult (.ix (.ix (.v 5) (.v 3)) (.c (.int 0))) (.v 9)))) [.ret (.c (.bl false))] [] :: tl_law_2_6
def tl_law_2_4 : List Lg.S := .ife (.cmp .NotEq (.bin .FloorDiv (.call "packed" S_packed [(.v 11), (.v 8), (.v 7)]) (.v 9)) (.ix (.ix (.v 5) (.v 3)) (.c (.int 0)))) [.ret (.c (.bl false))] [] :: tl_law_2_5
def tl_law_2_3 : List Lg.S := .asg (.n 11) (.tup [(.ix (.ix (.v 5) (.v 3)) (.c (.int 0))), (.ix (.ix (.v 5) (.v 3)) (.c (.int 2))), (.ix (.ix (.v 5) (.v 3)) (.c (.int 1)))]) :: tl_law_2_4
def tl_law_2_2 : List Lg.S := .ife (.cmp .NotEq (.v 10) (.tup [(.bin .Add (.ix (.ix (.v 5) (.v 3)) (.c (.int 0))) (.c (.int 1))), (.ix (.ix (.v 5) (.v 3)) (.c (.int 1))), (.ix (.ix (.v 5) (.v 3)) (.c (.int 2)))])) [.ret (.c (.bl false))] [] :: tl_law_2_3
def tl_law_2_1 : List Lg.S := .asg (.n 10) (.call "unpacked" S_unpacked [(.bin .Add (.ix (.v 4) (.v 3)) (.v 9)), (.v 7), (.v 8)]) :: tl_law_2_2
def ir_law_2 : List Lg.S := .ife (.cmp .NotEq (.ix (.ix (.v 5) (.v 3)) (.c (.int 0))) (.bin .FloorDiv (.ix (.v 4) (.v 3)) (.v 9))) [.ret (.c (.bl false))] [] :: tl_law_2_1
def tl_law_3_1 : List Lg.S := .ife (.or (.not (.cmp .Lt (.v 14) (.v 15))) (.cmp .NotEq (.bin .Sub (.call "packed" S_packed [(.v 15), (.v 7), (.v 8)]) (.call "packed" S_packed [(.v 14), (.v 7), (.v 8)])) (.c (.int 1)))) [.ret (.c (.bl false))] [] :: []
def ir_law_3 : List Lg.S := .par [14, 15] [(.call "unpacked" S_unpacked [(.bin .Add (.v 6) (.v 3)), (.v 7), (.v 8)]), (.call "unpacked" S_unpacked [(.bin .Add (.bin .Add (.v 6) (.v 3)) (.c (.int 1))), (.v 7), (.v 8)])] :: tl_law_3_1
def tl_law_1_9 : List Lg.S := .for_ (.n 3) (.r1 (.c (.int 10))) ir_law_3 :: []
def tl_law_1_8 : List Lg.S := .asg (.n 6) (.ix (.v 4) (.c (.int 0))) :: tl_law_1_9
def tl_law_1_7 : List Lg.S := .for_ (.n 3) (.r1 (.bi .len [(.v 4)])) ir_law_2 :: tl_law_1_8
def tl_law_1_6 : List Lg.S := .ife (.or (.cmp .NotEq (.v 5) (.bi .sorted [(.v 5)])) (.cmp .NotEq (.lc (.call "packed" S_packed [(.v 16), (.v 7), (.v 8)]) (.n 16) (.seq (.v 5)) [] [("_law_number", 16)]) (.v 4))) [.ret (.c (.bl false))] [] :: tl_law_1_7
def tl_law_1_5 : List Lg.S := .asgLc 5 (.lc (.call "unpacked" S_unpacked [(.v 13), (.v 7), (.v 8)]) (.n 13) (.seq (.v 4)) [] [("_law_value", 13)]) :: tl_law_1_6
def tl_law_1_4 : List Lg.S := .asg (.n 4) (.bi .sorted [(.v 4)]) :: tl_law_1_5
def tl_law_1_3 : List Lg.S := .for_ (.n 3) (.r1 (.c (.int 6))) [.ex (.me .append (.v 4) [(.call "_law_taken" S__law_taken [(.v 1), (.ix (.lst [(.c (.int 40)), (.c (.int 4000)), (.bin .Pow (.c (.int 10)) (.c (.int 12)))]) (.call "_law_taken" S__law_taken [(.v 1), (.c (.int 3))]))])])] :: tl_law_1_4
def tl_law_1_2 : List Lg.S := .for_ (.n 3) (.r1 (.bin .Add (.v 7) (.v 8))) [.asg (.n 9) (.bin .Mult (.v 9) (.c (.int 2)))] :: tl_law_1_3
def tl_law_1_1 : List Lg.S := .par [9, 4] [(.c (.int 1)), (.lst [])] :: tl_law_1_2
def ir_law_1 : List Lg.S := .asg (.tu [(.n 7), (.n 8)]) (.tup [(.call "_law_taken" S__law_taken [(.v 1), (.c (.int 8))]), (.call "_law_taken" S__law_taken [(.v 1), (.c (.int 8))])]) :: tl_law_1_1
def tl_law_2 : List Lg.S := .ret (.c (.bl true)) :: []
def tl_law_1 : List Lg.S := .for_ (.n 2) (.r1 (.c (.int 6))) ir_law_1 :: tl_law_2
def ir_law : List Lg.S := .asg (.n 1) (.lst [(.v 0), (.c (.int 0)), (.c (.int 0)), (.c (.int 0))]) :: tl_law_1


theorem use_taken {a : Addr} {s : List Int} {i j k many : Int} {L : Led} {Q : DK} {x : Ex} (hl : L a = some (rowO s i j k)) (hi : 0 ≤ i) (h0 : 0 < many) (h1 : many < 18446744073709551616) (h : ∀ (r : Nat) i' j' k', (r : Int) < many → 0 ≤ i' → Q (.int r) (up L a (rowO s i' j' k'))) : S__law_taken [.ref a, .int many] L Q x :=
  ⟨a, s, i, j, k, many, rfl, hl, hi, h0, h1, fun r i' j' k' a b c => by
    obtain ⟨n, rfl⟩ := Int.eq_ofNat_of_zero_le a
    exact h n i' j' k' b c⟩
abbrev T := T3 Int Int Int
def tri (m n : Nat) (v : Int) : T := ⟨v / 2 ^ n / 2 ^ m, v / 2 ^ n % 2 ^ m, v % 2 ^ n⟩
def pk (m n : Nat) (t : T) : Int := (t.a * 2 ^ m + t.b) * 2 ^ n + t.c
def okT (m n : Nat) (t : T) : Prop := 0 ≤ t.a ∧ 0 ≤ t.b ∧ 0 ≤ t.c ∧ t.a ≤ 1000000000000000 ∧ t.b < 2 ^ m ∧ t.c < 2 ^ n
theorem pk_tri (m n : Nat) (v : Int) : pk m n (tri m n v) = v := by
  unfold pk tri
  have e1 := Int.mul_ediv_add_emod (v / 2 ^ n) (2 ^ m)
  have e2 := Int.mul_ediv_add_emod v (2 ^ n)
  simp only
  rw [Int.mul_comm (v / 2 ^ n / 2 ^ m), e1, Int.mul_comm (v / 2 ^ n)]
  exact e2
theorem ok_tri {m n : Nat} {v : Int} (h0 : 0 ≤ v) (h1 : v ≤ 1000000000000000) : okT m n (tri m n v) := by
  have hM := pw_pos m
  have hN := pw_pos n
  refine ⟨?_, ?_, ?_, ?_, ?_, ?_⟩ <;> simp only [tri]
  · exact Int.ediv_nonneg (Int.ediv_nonneg h0 (by omega)) (by omega)
  · exact Int.emod_nonneg _ (by omega)
  · exact Int.emod_nonneg _ (by omega)
  · have a1 : v / 2 ^ n ≤ v := Int.ediv_le_self _ h0
    have a2 : v / 2 ^ n / 2 ^ m ≤ v / 2 ^ n := Int.ediv_le_self _ (Int.ediv_nonneg h0 (by omega))
    omega
  · exact Int.emod_lt_of_pos _ hM
  · exact Int.emod_lt_of_pos _ hN
theorem tri_pk {m n : Nat} {t : T} (h : okT m n t) : tri m n (pk m n t) = t := by
  obtain ⟨h1, h2, h3, h4, h5, h6⟩ := h
  have hM := pw_pos m
  have hN := pw_pos n
  obtain ⟨u1, u2⟩ := unpk (a := t.a) hM hN h2 h5 h3 h6
  unfold tri pk
  rw [u1, u2]
  have e1 : (t.a * 2 ^ m + t.b) % 2 ^ m = t.b := by
    rw [Int.add_comm, Int.add_mul_emod_self_right]
    exact Int.emod_eq_of_lt h2 h5
  have e2 : ((t.a * 2 ^ m + t.b) * 2 ^ n + t.c) % 2 ^ n = t.c := by
    rw [Int.add_comm, Int.add_mul_emod_self_right]
    exact Int.emod_eq_of_lt h3 h6
  rw [e1, e2]
theorem use_packed {m n : Nat} {t : T} {L : Led} {Q : DK} {x : Ex} (hm : m ≤ 20) (hn : n ≤ 20) (h : okT m n t) (q : Q (.int (pk m n t)) L) : S_packed [d t, .int m, .int n] L Q x := by
  obtain ⟨h1, h2, h3, h4, h5, h6⟩ := h
  exact ⟨t.a, t.b, t.c, m, n, rfl, hm, hn, h1, h2, h3, h4, h5, h6, q⟩
theorem use_unpacked {m n : Nat} {t : T} {v : Int} {L : Led} {Q : DK} {x : Ex} (hm : m ≤ 20) (hn : n ≤ 20) (h : okT m n t) (e : v = pk m n t) (q : Q (d t) L) : S_unpacked [.int v, .int m, .int n] L Q x := by
  obtain ⟨h1, h2, h3, h4, h5, h6⟩ := h
  subst e
  exact ⟨t.a, t.b, t.c, m, n, rfl, hm, hn, h1, h2, h3, h4, h5, h6, q⟩

theorem stepN {x y N c c' : Int} (h : x + 1 ≤ y) (hc : c < N) (hN : 0 < N) (hc' : 0 ≤ c') : x * N + c < y * N + c' := by
  have : (x + 1) * N ≤ y * N := Int.mul_le_mul_of_nonneg_right h (by omega)
  rw [Int.add_mul] at this
  omega
theorem lt_pk {m n : Nat} {t t' : T} (h : okT m n t) (h' : okT m n t') (l : DatO.lt t t') : pk m n t < pk m n t' := by
  obtain ⟨h1, h2, h3, h4, h5, h6⟩ := h
  obtain ⟨k1, k2, k3, k4, k5, k6⟩ := h'
  have hM := pw_pos m
  have hN := pw_pos n
  unfold pk
  rcases l with ⟨l, _⟩ | ⟨e, l⟩
  · have := stepN (c := t.b) (c' := t'.b) (N := 2 ^ m) (show t.a + 1 ≤ t'.a from l) h5 hM k2
    exact stepN (by omega) h6 hN k3
  · rw [e]
    rcases l with ⟨l, _⟩ | ⟨e, l, _⟩
    · have l : t.b < t'.b := l
      exact stepN (by omega) h6 hN k3
    · rw [e]
      have l : t.c < t'.c := l
      omega
theorem lt_tri {m n : Nat} {v v' : Int} (h0 : 0 ≤ v) (h : v ≤ v') (h1 : v' ≤ 1000000000000000) : ¬ DatO.lt (tri m n v') (tri m n v) := fun l => by
  have := lt_pk (ok_tri (by omega) h1) (ok_tri h0 (by omega)) l
  rw [pk_tri, pk_tri] at this
  omega
theorem tot (t t' : T) : DatO.lt t t' ∨ t = t' ∨ DatO.lt t' t := by
  obtain ⟨a, b, c⟩ := t
  obtain ⟨a', b', c'⟩ := t'
  show ((a < a' ∧ a ≠ a') ∨ (a = a' ∧ ((b < b' ∧ b ≠ b') ∨ (b = b' ∧ c < c' ∧ c ≠ c')))) ∨ _ ∨ ((a' < a ∧ a' ≠ a) ∨ (a' = a ∧ ((b' < b ∧ b' ≠ b) ∨ (b' = b ∧ c' < c ∧ c' ≠ c))))
  simp only [T3.mk.injEq]
  omega
theorem tri_lt {m n : Nat} {v : Int} (h0 : 0 ≤ v) (h1 : v + 1 ≤ 1000000000000000) : DatO.lt (tri m n v) (tri m n (v + 1)) := by
  rcases tot (tri m n v) (tri m n (v + 1)) with h | h | h
  · exact h
  · have e := congrArg (pk m n) h
    rw [pk_tri, pk_tri] at e
    omega
  · exact absurd h (lt_tri h0 (by omega) h1)
theorem atI_nat {α : Type} (xs : List α) (k : Nat) : atI xs (k : Int) = xs[k]? := by
  rw [atI_nat' _ _ (by omega)]; simp
structure Row (m n : Nat) (v A B C : Int) : Prop where
  ok : okT m n ⟨A, B, C⟩
  eq : (A * 2 ^ m + B) * 2 ^ n + C = v
  small : A < 1000000000000
theorem row_of {m n : Nat} {v : Int} (h0 : 0 ≤ v) (h1 : v < 1000000000000) : ∃ A B C, tri m n v = ⟨A, B, C⟩ ∧ Row m n v A B C := by
  refine ⟨_, _, _, rfl, ok_tri h0 (by omega), pk_tri m n v, ?_⟩
  have hM := pw_pos m
  have hN := pw_pos n
  have a1 : v / 2 ^ n ≤ v := Int.ediv_le_self _ h0
  have a2 : v / 2 ^ n / 2 ^ m ≤ v / 2 ^ n := Int.ediv_le_self _ (Int.ediv_nonneg h0 (by omega))
  omega
theorem Row.div {m n : Nat} {v A B C : Int} (h : Row m n v A B C) : v / 2 ^ (m + n) = A := by
  obtain ⟨⟨h1, h2, h3, h4, h5, h6⟩, e, _⟩ := h
  simp only at h1 h2 h3 h4 h5 h6
  have hM := pw_pos m
  have hN := pw_pos n
  obtain ⟨u1, u2⟩ := unpk (a := A) hM hN h2 h5 h3 h6
  rw [Nat.add_comm, Int.pow_add, ← Int.ediv_ediv_of_nonneg (by omega), ← e, u1, u2]
theorem Row.next {m n : Nat} {v A B C : Int} (h : Row m n v A B C) : okT m n ⟨A + 1, B, C⟩ ∧ v + 2 ^ (m + n) = pk m n ⟨A + 1, B, C⟩ := by
  obtain ⟨⟨h1, h2, h3, h4, h5, h6⟩, e, hs⟩ := h
  simp only at h1 h2 h3 h4 h5 h6
  refine ⟨⟨by simp only; omega, h2, h3, by simp only; omega, h5, h6⟩, ?_⟩
  unfold pk
  simp only
  rw [← e, Int.pow_add, Int.add_mul A, Int.one_mul, Int.add_mul, Int.add_mul, Int.add_mul]
  omega
theorem Row.swap {m n : Nat} {v A B C : Int} (h : Row m n v A B C) : okT n m ⟨A, C, B⟩ ∧ pk n m ⟨A, C, B⟩ / 2 ^ (m + n) = A := by
  obtain ⟨⟨h1, h2, h3, h4, h5, h6⟩, e, hs⟩ := h
  simp only at h1 h2 h3 h4 h5 h6
  have hM := pw_pos m
  have hN := pw_pos n
  refine ⟨⟨h1, h3, h2, h4, h6, h5⟩, ?_⟩
  obtain ⟨u1, u2⟩ := unpk (a := A) hN hM h3 h6 h2 h5
  unfold pk
  rw [Int.pow_add, ← Int.ediv_ediv_of_nonneg (by omega), u1, u2]
theorem Row.zero {m n : Nat} {v A B C : Int} (h : Row m n v A B C) : okT m n ⟨0, B, C⟩ ∧ pk m n ⟨0, B, C⟩ = v - A * 2 ^ (m + n) := by
  obtain ⟨⟨h1, h2, h3, h4, h5, h6⟩, e, hs⟩ := h
  simp only at h1 h2 h3 h4 h5 h6
  refine ⟨⟨by simp, h2, h3, by simp, h5, h6⟩, ?_⟩
  unfold pk
  simp only
  have e3 : A * 2 ^ m * 2 ^ n = A * (2 ^ m * 2 ^ n) := Int.mul_assoc _ _ _
  rw [← e, Int.pow_add, Int.add_mul, Int.add_mul]
  simp only [Int.zero_mul, Int.zero_add]
  omega
theorem Row.wide {m n : Nat} {v A B C : Int} (h : Row m n v A B C) : okT (m + 5) (n + 5) ⟨A, B, C⟩ ∧ v ≤ pk (m + 5) (n + 5) ⟨A, B, C⟩ := by
  obtain ⟨⟨h1, h2, h3, h4, h5, h6⟩, e, hs⟩ := h
  simp only at h1 h2 h3 h4 h5 h6
  have hM := pw_pos m
  have hN := pw_pos n
  have e1 : (2 : Int) ^ (m + 5) = 2 ^ m * 32 := by rw [Int.pow_add]; rfl
  have e2 : (2 : Int) ^ (n + 5) = 2 ^ n * 32 := by rw [Int.pow_add]; rfl
  refine ⟨⟨h1, h2, h3, h4, by simp only; omega, by simp only; omega⟩, ?_⟩
  unfold pk
  simp only
  rw [← e, e1, e2]
  have a1 : A * 2 ^ m ≤ A * (2 ^ m * 32) := Int.mul_le_mul_of_nonneg_left (by omega) h1
  have a2 : (A * 2 ^ m + B) * 2 ^ n ≤ (A * (2 ^ m * 32) + B) * 2 ^ n := Int.mul_le_mul_of_nonneg_right (by omega) (by omega)
  have a0 : 0 ≤ A * (2 ^ m * 32) := Int.mul_nonneg h1 (by omega)
  have a3 : (A * (2 ^ m * 32) + B) * 2 ^ n ≤ (A * (2 ^ m * 32) + B) * (2 ^ n * 32) := Int.mul_le_mul_of_nonneg_left (by omega) (by omega)
  omega
theorem vc_law (ds : List D) (L : Led) (Q : DK) (x : Ex) (h : lawS 63 ds L Q x) : WSs ir_law (startR N_law ds) L (endsOf Q) (exOf x) := by
  obtain ⟨ns, rfl, hn, q⟩ := h
  refine stp fun K hK => ?_
  simp only [startR, N_law]
  walk_at "ev"
  refine ⟨by decide, .inr fun p hp => hK _ _ (stp fun K2 hK2 => ?_)⟩
  clear hK
  walk_at "ev"
  refine ⟨rngI (by decide) (by decide), for_rng (n := 6) (fun i r' L' => ∃ i' j k v2 v3 v4 v5 v6 v7 v8 v9 v10 v11 v12 v13 v14 v15 v16, 0 ≤ i' ∧ L' = up L p (rowO ns i' j k) ∧ r' = [some (.lsc (ns.map D.int)), some (.ref p), v2, v3, v4, v5, v6, v7, v8, v9, v10, v11, v12, v13, v14, v15, v16]) ?_ ?_ ?_⟩
  · exact ⟨0, 0, 0, none, none, none, none, none, none, none, none, none, none, none, none, none, none, none, by omega, rfl, rfl⟩
  · rintro i r' L' hi ⟨i', j, k, v2, v3, v4, v5, v6, v7, v8, v9, v10, v11, v12, v13, v14, v15, v16, hi', rfl, rfl⟩
    walk_at "ev"
    refine stp fun K3 hK3 => ?_
    walk_at "ev"
    refine use_taken up_same hi' (by decide) (by decide) fun m i1 j1 k1 hm hi1 => ?_
    rw [up_up]
    refine use_taken up_same hi1 (by decide) (by decide) fun n i2 j2 k2 hn hi2 => ?_
    rw [up_up]
    refine ⟨by decide, hK3 _ _ (stp fun K4 hK4 => ?_)⟩
    clear hK3
    have hM := pw_pos m
    have hN := pw_pos n
    have hMl := pw_le (m := m) (by omega)
    have hNl := pw_le (m := n) (by omega)
    walk_at "ev"
    refine ⟨by decide, .inr fun w hw => hK4 _ _ (stp fun K5 hK5 => ?_)⟩
    clear hK4
    obtain ⟨hpw, hLw⟩ := fresh_ne hw
    walk_at "ev"
    refine ⟨rngI (by omega) (by omega), ?_⟩
    rw [show ((m : Int) + n).toNat = m + n by omega]
    refine for_rng (fun t r' L' => ∃ v3, L' = up (up L p (rowO ns i2 j2 k2)) w (.lst []) ∧ r' = [some (.lsc (ns.map D.int)), some (.ref p), some (.int i), v3, some (.ref w), v5, v6, some (.int m), some (.int n), some (.int (2 ^ t)), v10, v11, v12, v13, v14, v15, v16]) ⟨_, rfl, rfl⟩ ?_ ?_
    · rintro t r' L' ht ⟨v3, rfl, rfl⟩
      walk_at "ev"
      refine stp fun K6 hK6 => ?_
      walk_at "ev"
      refine ⟨mulR (by decide) (by decide), hK6 _ _ (stpN (turn_nx ⟨some (.int t), rfl, by rw [Int.pow_succ]⟩))⟩
    rintro r' L' ⟨v3, rfl, rfl⟩
    refine hK5 _ _ (stp fun K6 hK6 => ?_)
    clear hK5
    walk_at "ev"
    refine ⟨rngI (by decide) (by decide), for_rng (n := 6) (fun t r' L' => ∃ v3 i' j k vals, 0 ≤ i' ∧ vals.length = t ∧ (∀ v ∈ vals, 0 ≤ v ∧ v < 1000000000000) ∧ L' = up (up L p (rowO ns i' j k)) w (.lst (vals.map D.int)) ∧ r' = [some (.lsc (ns.map D.int)), some (.ref p), some (.int i), v3, some (.ref w), v5, v6, some (.int m), some (.int n), some (.int (2 ^ (m + n))), v10, v11, v12, v13, v14, v15, v16]) ⟨_, _, _, _, [], hi2, rfl, (fun _ h => nomatch h), rfl, rfl⟩ ?_ ?_⟩
    · rintro t r' L' ht ⟨v3, i3, j3, k3, vals, hi3, hv1, hv2, rfl, rfl⟩
      walk_at "ev"
      refine stp fun K7 hK7 => ?_
      walk_at "ev"
      refine ⟨⟨_, rfl⟩, powI (by decide) (by decide) (by decide), by decide, .inl ?_⟩
      refine use_taken (get_other hpw up_same) hi3 (by decide) (by decide) fun c i4 j4 k4 hc hi4 => ?_
      rw [up_comm hpw, up_up]
      have hc3 : c = 0 ∨ c = 1 ∨ c = 2 := by omega
      obtain ⟨B, eB, hB0, hB1⟩ : ∃ B : Int, atI [D.int 40, D.int 4000, D.int (10 ^ (12 : Int).toNat)] c = some (.int B) ∧ 0 < B ∧ B ≤ 1000000000000 := by
        rcases hc3 with rfl | rfl | rfl
        · exact ⟨40, rfl, by decide, by decide⟩
        · exact ⟨4000, rfl, by decide, by decide⟩
        · exact ⟨10 ^ (12 : Int).toNat, rfl, by decide, by decide⟩
      refine ⟨_, eB, ?_⟩
      refine use_taken (get_other hpw up_same) hi4 hB0 (by omega) fun v i5 j5 k5 hv hi5 => ?_
      rw [up_comm hpw, up_up]
      refine ⟨_, up_same, by simp [line]; omega, hK7 _ _ (stpN (turn_nx ⟨_, i5, j5, k5, vals ++ [(v : Int)], hi5, by simp [hv1], ?_, ?_, rfl⟩))⟩
      · intro z hz
        rcases List.mem_append.mp hz with hz | hz
        · exact hv2 z hz
        · simp at hz; subst hz; omega
      · rw [up_up]; simp
    rintro r' L' ⟨v3', i3, j3, k3, vals, hi3, hv1, hv2, rfl, rfl⟩
    refine hK6 _ _ (stp fun K7 hK7 => ?_)
    clear hK6
    walk_at "ev"
    refine sort_int vals (by simp [line]; omega) (.inl ?_)
    generalize hvs : vals.mergeSort (fun a b => decide (a ≤ b)) = vs
    have hlen : vs.length = 6 := by rw [← hvs]; simp [hv1]
    have hmem : ∀ v ∈ vs, 0 ≤ v ∧ v < 1000000000000 := fun v hv => hv2 v (by rw [← hvs] at hv; exact List.mem_mergeSort.mp hv)
    have hsort : vs.Pairwise (· ≤ ·) := by
      rw [← hvs]
      have := List.pairwise_mergeSort (le := fun a b : Int => decide (a ≤ b)) (fun a b c h1 h2 => by simp at *; omega) (fun a b => by simp; omega) vals
      exact this.imp fun h => by simpa using h
    refine hK7 _ _ (stpV (.sub (L' := up L p (rowO ns i3 j3 k3)) (Sub.refl.up ?_)) (stp fun K8 hK8 => ?_))
    · rw [up_ne (Ne.symm hpw)]; exact hLw
    clear hK7
    walk_at "ev"
    have hle : ∀ v ∈ vs, 0 ≤ v ∧ v ≤ 1000000000000000 := fun v hv => by have := hmem v hv; omega
    refine lc_all (fun v => d (tri m n v)) (by simp [line]; omega) trivial (fun v hv J Jn hJ => ?_) (.inl ?_)
    · walk_at "ev"
      exact use_unpacked (by omega) (by omega) (ok_tri (hle v hv).1 (hle v hv).2) (pk_tri m n v).symm hJ
    rw [show vs.map (fun v => d (tri m n v)) = (vs.map (tri m n)).map d by simp]
    refine hK8 _ _ (stp fun K9 hK9 => ?_)
    clear hK8
    walk_at "ev"
    have hsame : (vs.map (tri m n)).mergeSort leO = vs.map (tri m n) := by
      refine sorted_same ?_
      rw [List.pairwise_map]
      refine hsort.imp_of_mem fun {a b} ha hb hab => lt_tri (hle a ha).1 hab (hle b hb).2
    refine sort_datO (vs.map (tri m n)) (PySem.W.Sortable.tuples fun b => ⟨_, _, rfl⟩) (by simp [line]; omega) (.inl ?_)
    rw [hsame]
    refine eqW_same (α := List T) (vs.map (tri m n)) ?_
    walk_at "ev"
    refine lc_all (as := vs.map (tri m n)) (fun t => .int (pk m n t)) (by simp [line]; omega) trivial (fun t ht J Jn hJ => ?_) (.inl ?_)
    · walk_at "ev"
      obtain ⟨v, hv, rfl⟩ := List.mem_map.mp ht
      exact use_packed (by omega) (by omega) (ok_tri (hle v hv).1 (hle v hv).2) hJ
    rw [show (vs.map (tri m n)).map (fun t => D.int (pk m n t)) = vs.map D.int by simp [pk_tri]]
    refine eqW_same (α := List Int) vs ?_
    walk_at "ev"
    refine stpN (hK9 _ _ (stp fun K10 hK10 => ?_))
    clear hK9
    walk_at "ev"
    rw [List.length_map, hlen]
    have hsz : (0 : Int) < 2 ^ (m + n) ∧ (2 : Int) ^ (m + n) < 18446744073709551616 := by
      have := pw_pos (m + n)
      have := pw_le (m := m + n) (by omega)
      omega
    refine ⟨rngI (by decide) (by decide), for_rng (n := 6) (fun t r' L' => ∃ v3 v10 v11 v12, L' = up L p (rowO ns i3 j3 k3) ∧ r' = [some (.lsc (ns.map D.int)), some (.ref p), some (.int i), v3, some (.fz (.lst (vs.map D.int))), some (.fz (.lst ((vs.map (tri m n)).map d))), v6, some (.int m), some (.int n), some (.int (2 ^ (m + n))), v10, v11, v12, v13, v14, v15, v16]) ⟨_, _, _, _, rfl, rfl⟩ ?_ ?_⟩
    · rintro t r' L' ht ⟨v3, v10, v11, v12, rfl, rfl⟩
      obtain ⟨v, hv⟩ : ∃ v, vs[t]? = some v := ⟨vs[t]'(by omega), by simp⟩
      have hvm := hmem v (List.mem_of_getElem? hv)
      obtain ⟨A, B, C, eT, R⟩ := row_of (m := m) (n := n) hvm.1 hvm.2
      have g1 : atI (vs.map D.int) (t : Int) = some (.int v) := by rw [atI_nat]; simp [hv]
      have g2 : atI ((vs.map (tri m n)).map d) (t : Int) = some (.tup [.int A, .int B, .int C]) := by
        rw [atI_nat]
        simp only [List.getElem?_map, hv, Option.map_some, eT]
        rfl
      walk_at "ev"
      refine stp fun K11 hK11 => ?_
      walk_at "ev"
      simp only [g1, g2]
      walk_at "ev"
      rw [R.div]
      refine ⟨hsz, ?_⟩
      simp only [decide_true, IF_false, Bool.not_true]
      refine stpN (hK11 _ _ (stp fun K12 hK12 => ?_))
      clear hK11
      walk_at "ev"
      simp only [g1, g2]
      walk_at "ev"
      refine use_unpacked (by omega) (by omega) R.next.1 R.next.2 (hK12 _ _ (stp fun K13 hK13 => ?_))
      clear hK12
      walk_at "ev"
      simp only [g1, g2]
      walk_at "ev"
      refine ⟨by decide, eqW_same (α := T) ⟨A + 1, B, C⟩ ?_⟩
      walk_at "ev"
      refine stpN (hK13 _ _ (stp fun K14 hK14 => ?_))
      clear hK13
      walk_at "ev"
      simp only [g1, g2]
      walk_at "ev"
      refine ⟨by decide, hK14 _ _ (stp fun K15 hK15 => ?_)⟩
      clear hK14
      walk_at "ev"
      simp only [g1, g2]
      walk_at "ev"
      refine use_packed (t := ⟨A, C, B⟩) (by omega) (by omega) R.swap.1 ?_
      walk_at "ev"
      rw [R.swap.2]
      refine ⟨hsz, ?_⟩
      simp only [decide_true, IF_false, Bool.not_true]
      refine stpN (hK15 _ _ (stp fun K16 hK16 => ?_))
      clear hK15
      walk_at "ev"
      simp only [g1, g2]
      walk_at "ev"
      refine ⟨by decide, (by decide : 3 ≤ line), ?_⟩
      refine use_packed (t := ⟨0, B, C⟩) (by omega) (by omega) R.zero.1 ?_
      walk_at "ev"
      rw [R.zero.2]
      refine ⟨mulR (by omega) (by omega), ?_⟩
      simp only [decide_true, IF_false, Bool.not_true]
      refine stpN (hK16 _ _ (stp fun K17 hK17 => ?_))
      clear hK16
      walk_at "ev"
      simp only [g1, g2]
      walk_at "ev"
      refine use_packed (t := ⟨A, B, C⟩) (m := m + 5) (n := n + 5) (by omega) (by omega) R.wide.1 ?_
      refine hK17 _ _ (stp fun K18 hK18 => ?_)
      clear hK17
      walk_at "ev"
      simp only [g1, g2]
      walk_at "ev"
      refine use_unpacked (t := ⟨A, B, C⟩) (m := m + 5) (n := n + 5) (by omega) (by omega) R.wide.1 rfl ?_
      refine eqW_same (α := T) ⟨A, B, C⟩ ?_
      walk_at "ev"
      rw [show decide (pk (m + 5) (n + 5) ⟨A, B, C⟩ < v) = false by have := R.wide.2; simp; omega]
      walk_at "ev"
      exact stpN (hK18 _ _ (stpN (turn_nx ⟨_, _, _, _, rfl, rfl⟩)))
    rintro r' L' ⟨v3, v10, v11, v12, rfl, rfl⟩
    refine hK10 _ _ (stp fun K11 hK11 => ?_)
    clear hK10
    obtain ⟨b, hb⟩ : ∃ v, vs[0]? = some v := ⟨vs[0]'(by omega), by simp⟩
    have hbm := hmem b (List.mem_of_getElem? hb)
    have g3 : atI (vs.map D.int) 0 = some (.int b) := by rw [show (0 : Int) = ((0 : Nat) : Int) from rfl, atI_nat]; simp [hb]
    walk_at "ev"
    simp only [g3]
    walk_at "ev"
    refine hK11 _ _ (stp fun K12 hK12 => ?_)
    clear hK11
    walk_at "ev"
    refine ⟨rngI (by decide) (by decide), for_rng (n := 10) (fun t r' L' => ∃ v3 v14 v15, L' = up L p (rowO ns i3 j3 k3) ∧ r' = [some (.lsc (ns.map D.int)), some (.ref p), some (.int i), v3, some (.fz (.lst (vs.map D.int))), some (.fz (.lst ((vs.map (tri m n)).map d))), some (.int b), some (.int m), some (.int n), some (.int (2 ^ (m + n))), v10, v11, v12, v13, v14, v15, v16]) ⟨_, _, _, rfl, rfl⟩ ?_ ?_⟩
    · rintro t r' L' ht ⟨v3, v14, v15, rfl, rfl⟩
      walk_at "ev"
      refine stp fun K13 hK13 => ?_
      walk_at "ev"
      have o1 : okT m n (tri m n (b + t)) := ok_tri (by omega) (by omega)
      have o2 : okT m n (tri m n (b + t + 1)) := ok_tri (by omega) (by omega)
      refine use_unpacked (by omega) (by omega) o1 (pk_tri m n _).symm ?_
      refine use_unpacked (by omega) (by omega) o2 (pk_tri m n _).symm ?_
      walk_at "ev"
      refine hK13 _ _ (stp fun K14 hK14 => ?_)
      clear hK13
      walk_at "ev"
      refine ordW_dat (tri m n (b + t)) (tri m n (b + t + 1)) ?_
      rw [dataLt_dec _ _ true (by simp; exact tri_lt (by omega) (by omega))]
      walk_at "ev"
      refine use_packed (by omega) (by omega) o2 ?_
      refine use_packed (by omega) (by omega) o1 ?_
      rw [pk_tri, pk_tri]
      walk_at "ev"
      rw [show decide (b + (t : Int) + 1 - (b + t) = 1) = true by simp; omega]
      walk_at "ev"
      exact stpN (hK14 _ _ (stpN (turn_nx ⟨_, _, _, rfl, rfl⟩)))
    rintro r' L' ⟨v3, v14, v15, rfl, rfl⟩
    exact hK12 _ _ (stpN (turn_nx ⟨i3, j3, k3, _, _, _, _, _, _, _, _, _, _, _, _, _, _, _, hi3, rfl, rfl⟩))
  · rintro r' L' ⟨i', j, k, v2, v3, v4, v5, v6, v7, v8, v9, v10, v11, v12, v13, v14, v15, v16, hi', rfl, rfl⟩
    refine hK2 _ _ (stp fun K3 hK3 => ?_)
    walk_at "ev"
    exact hereL (q _)
end K53

set_option Elab.async false
set_option linter.all false
set_option maxRecDepth 100000
set_option maxHeartbeats 4000000
namespace K53
open PySem L2 Lg Lib
theorem len_is_number {ds : List D} {L : Led} {Q : DK} {x : Ex} (h : S_is_number ds L Q x) : ds.length = P_is_number.length := by first | (obtain ⟨rfl, _⟩ := h; rfl) | (obtain ⟨_, rfl, _⟩ := h; rfl) | (obtain ⟨_, _, rfl, _⟩ := h; rfl) | (obtain ⟨_, _, _, rfl, _⟩ := h; rfl) | (obtain ⟨_, _, _, _, rfl, _⟩ := h; rfl) | (obtain ⟨_, _, _, _, _, rfl, _⟩ := h; rfl) | (obtain ⟨_, _, _, _, _, _, rfl, _⟩ := h; rfl) | (obtain ⟨_, _, _, _, _, _, _, rfl, _⟩ := h; rfl) | (obtain ⟨_, _, _, _, _, _, _, _, rfl, _⟩ := h; rfl) | (obtain ⟨_, _, _, _, _, _, _, _, _, rfl, _⟩ := h; rfl) | (obtain ⟨_, _, _, _, _, _, _, _, _, _, rfl, _⟩ := h; rfl) | (obtain ⟨_, _, _, _, _, _, _, _, _, _, _, rfl, _⟩ := h; rfl) | (obtain ⟨_, _, _, _, _, _, _, _, _, _, _, _, rfl, _⟩ := h; rfl) | (obtain ⟨_, _, _, _, _, _, _, _, _, _, _, _, _, rfl, _⟩ := h; rfl)
theorem len_is_plain_number {ds : List D} {L : Led} {Q : DK} {x : Ex} (h : S_is_plain_number ds L Q x) : ds.length = P_is_plain_number.length := by first | (obtain ⟨rfl, _⟩ := h; rfl) | (obtain ⟨_, rfl, _⟩ := h; rfl) | (obtain ⟨_, _, rfl, _⟩ := h; rfl) | (obtain ⟨_, _, _, rfl, _⟩ := h; rfl) | (obtain ⟨_, _, _, _, rfl, _⟩ := h; rfl) | (obtain ⟨_, _, _, _, _, rfl, _⟩ := h; rfl) | (obtain ⟨_, _, _, _, _, _, rfl, _⟩ := h; rfl) | (obtain ⟨_, _, _, _, _, _, _, rfl, _⟩ := h; rfl) | (obtain ⟨_, _, _, _, _, _, _, _, rfl, _⟩ := h; rfl) | (obtain ⟨_, _, _, _, _, _, _, _, _, rfl, _⟩ := h; rfl) | (obtain ⟨_, _, _, _, _, _, _, _, _, _, rfl, _⟩ := h; rfl) | (obtain ⟨_, _, _, _, _, _, _, _, _, _, _, rfl, _⟩ := h; rfl) | (obtain ⟨_, _, _, _, _, _, _, _, _, _, _, _, rfl, _⟩ := h; rfl) | (obtain ⟨_, _, _, _, _, _, _, _, _, _, _, _, _, rfl, _⟩ := h; rfl)
theorem len_rooms {ds : List D} {L : Led} {Q : DK} {x : Ex} (h : S_rooms ds L Q x) : ds.length = P_rooms.length := by first | (obtain ⟨rfl, _⟩ := h; rfl) | (obtain ⟨_, rfl, _⟩ := h; rfl) | (obtain ⟨_, _, rfl, _⟩ := h; rfl) | (obtain ⟨_, _, _, rfl, _⟩ := h; rfl) | (obtain ⟨_, _, _, _, rfl, _⟩ := h; rfl) | (obtain ⟨_, _, _, _, _, rfl, _⟩ := h; rfl) | (obtain ⟨_, _, _, _, _, _, rfl, _⟩ := h; rfl) | (obtain ⟨_, _, _, _, _, _, _, rfl, _⟩ := h; rfl) | (obtain ⟨_, _, _, _, _, _, _, _, rfl, _⟩ := h; rfl) | (obtain ⟨_, _, _, _, _, _, _, _, _, rfl, _⟩ := h; rfl) | (obtain ⟨_, _, _, _, _, _, _, _, _, _, rfl, _⟩ := h; rfl) | (obtain ⟨_, _, _, _, _, _, _, _, _, _, _, rfl, _⟩ := h; rfl) | (obtain ⟨_, _, _, _, _, _, _, _, _, _, _, _, rfl, _⟩ := h; rfl) | (obtain ⟨_, _, _, _, _, _, _, _, _, _, _, _, _, rfl, _⟩ := h; rfl)
theorem len_packed {ds : List D} {L : Led} {Q : DK} {x : Ex} (h : S_packed ds L Q x) : ds.length = P_packed.length := by first | (obtain ⟨rfl, _⟩ := h; rfl) | (obtain ⟨_, rfl, _⟩ := h; rfl) | (obtain ⟨_, _, rfl, _⟩ := h; rfl) | (obtain ⟨_, _, _, rfl, _⟩ := h; rfl) | (obtain ⟨_, _, _, _, rfl, _⟩ := h; rfl) | (obtain ⟨_, _, _, _, _, rfl, _⟩ := h; rfl) | (obtain ⟨_, _, _, _, _, _, rfl, _⟩ := h; rfl) | (obtain ⟨_, _, _, _, _, _, _, rfl, _⟩ := h; rfl) | (obtain ⟨_, _, _, _, _, _, _, _, rfl, _⟩ := h; rfl) | (obtain ⟨_, _, _, _, _, _, _, _, _, rfl, _⟩ := h; rfl) | (obtain ⟨_, _, _, _, _, _, _, _, _, _, rfl, _⟩ := h; rfl) | (obtain ⟨_, _, _, _, _, _, _, _, _, _, _, rfl, _⟩ := h; rfl) | (obtain ⟨_, _, _, _, _, _, _, _, _, _, _, _, rfl, _⟩ := h; rfl) | (obtain ⟨_, _, _, _, _, _, _, _, _, _, _, _, _, rfl, _⟩ := h; rfl)
theorem len_unpacked {ds : List D} {L : Led} {Q : DK} {x : Ex} (h : S_unpacked ds L Q x) : ds.length = P_unpacked.length := by first | (obtain ⟨rfl, _⟩ := h; rfl) | (obtain ⟨_, rfl, _⟩ := h; rfl) | (obtain ⟨_, _, rfl, _⟩ := h; rfl) | (obtain ⟨_, _, _, rfl, _⟩ := h; rfl) | (obtain ⟨_, _, _, _, rfl, _⟩ := h; rfl) | (obtain ⟨_, _, _, _, _, rfl, _⟩ := h; rfl) | (obtain ⟨_, _, _, _, _, _, rfl, _⟩ := h; rfl) | (obtain ⟨_, _, _, _, _, _, _, rfl, _⟩ := h; rfl) | (obtain ⟨_, _, _, _, _, _, _, _, rfl, _⟩ := h; rfl) | (obtain ⟨_, _, _, _, _, _, _, _, _, rfl, _⟩ := h; rfl) | (obtain ⟨_, _, _, _, _, _, _, _, _, _, rfl, _⟩ := h; rfl) | (obtain ⟨_, _, _, _, _, _, _, _, _, _, _, rfl, _⟩ := h; rfl) | (obtain ⟨_, _, _, _, _, _, _, _, _, _, _, _, rfl, _⟩ := h; rfl) | (obtain ⟨_, _, _, _, _, _, _, _, _, _, _, _, _, rfl, _⟩ := h; rfl)
theorem len__law_taken {ds : List D} {L : Led} {Q : DK} {x : Ex} (h : S__law_taken ds L Q x) : ds.length = P__law_taken.length := by first | (obtain ⟨rfl, _⟩ := h; rfl) | (obtain ⟨_, rfl, _⟩ := h; rfl) | (obtain ⟨_, _, rfl, _⟩ := h; rfl) | (obtain ⟨_, _, _, rfl, _⟩ := h; rfl) | (obtain ⟨_, _, _, _, rfl, _⟩ := h; rfl) | (obtain ⟨_, _, _, _, _, rfl, _⟩ := h; rfl) | (obtain ⟨_, _, _, _, _, _, rfl, _⟩ := h; rfl) | (obtain ⟨_, _, _, _, _, _, _, rfl, _⟩ := h; rfl) | (obtain ⟨_, _, _, _, _, _, _, _, rfl, _⟩ := h; rfl) | (obtain ⟨_, _, _, _, _, _, _, _, _, rfl, _⟩ := h; rfl) | (obtain ⟨_, _, _, _, _, _, _, _, _, _, rfl, _⟩ := h; rfl) | (obtain ⟨_, _, _, _, _, _, _, _, _, _, _, rfl, _⟩ := h; rfl) | (obtain ⟨_, _, _, _, _, _, _, _, _, _, _, _, rfl, _⟩ := h; rfl) | (obtain ⟨_, _, _, _, _, _, _, _, _, _, _, _, _, rfl, _⟩ := h; rfl)
theorem len_law {ds : List D} {L : Led} {Q : DK} {x : Ex} (h : lawS 63 ds L Q x) : ds.length = P_law.length := by first | (obtain ⟨rfl, _⟩ := h; rfl) | (obtain ⟨_, rfl, _⟩ := h; rfl) | (obtain ⟨_, _, rfl, _⟩ := h; rfl) | (obtain ⟨_, _, _, rfl, _⟩ := h; rfl) | (obtain ⟨_, _, _, _, rfl, _⟩ := h; rfl) | (obtain ⟨_, _, _, _, _, rfl, _⟩ := h; rfl) | (obtain ⟨_, _, _, _, _, _, rfl, _⟩ := h; rfl) | (obtain ⟨_, _, _, _, _, _, _, rfl, _⟩ := h; rfl) | (obtain ⟨_, _, _, _, _, _, _, _, rfl, _⟩ := h; rfl) | (obtain ⟨_, _, _, _, _, _, _, _, _, rfl, _⟩ := h; rfl) | (obtain ⟨_, _, _, _, _, _, _, _, _, _, rfl, _⟩ := h; rfl) | (obtain ⟨_, _, _, _, _, _, _, _, _, _, _, rfl, _⟩ := h; rfl) | (obtain ⟨_, _, _, _, _, _, _, _, _, _, _, _, rfl, _⟩ := h; rfl) | (obtain ⟨_, _, _, _, _, _, _, _, _, _, _, _, _, rfl, _⟩ := h; rfl)
def top (i : Nat) : Stmt := PySem.Challenge.pw_manymakers_k53_whole_numbers_packed_in_o.main.body.getD i (.Pass ⟨0, 0, 0, 0⟩)
abbrev st_is_number : Stmt := top 6
theorem sc_is_number : FnScope N_is_number P_is_number (defScope st_is_number) := ⟨rfl, rfl, rfl, by decide +kernel, rfl, by decide +kernel, by decide +kernel⟩
theorem ok_is_number : okSs ir_is_number ⟨N_is_number, defScope st_is_number, false⟩ (defBody st_is_number) = true := by decide +kernel
abbrev st_is_plain_number : Stmt := top 8
theorem sc_is_plain_number : FnScope N_is_plain_number P_is_plain_number (defScope st_is_plain_number) := ⟨rfl, rfl, rfl, by decide +kernel, rfl, by decide +kernel, by decide +kernel⟩
theorem ok_is_plain_number : okSs ir_is_plain_number ⟨N_is_plain_number, defScope st_is_plain_number, false⟩ (defBody st_is_plain_number) = true := by decide +kernel
abbrev st_rooms : Stmt := top 12
theorem sc_rooms : FnScope N_rooms P_rooms (defScope st_rooms) := ⟨rfl, rfl, rfl, by decide +kernel, rfl, by decide +kernel, by decide +kernel⟩
theorem ok_rooms : okSs ir_rooms ⟨N_rooms, defScope st_rooms, false⟩ (defBody st_rooms) = true := by decide +kernel
abbrev st_packed : Stmt := top 13
theorem sc_packed : FnScope N_packed P_packed (defScope st_packed) := ⟨rfl, rfl, rfl, by decide +kernel, rfl, by decide +kernel, by decide +kernel⟩
theorem ok_packed : okSs ir_packed ⟨N_packed, defScope st_packed, false⟩ (defBody st_packed) = true := by decide +kernel
abbrev st_unpacked : Stmt := top 14
theorem sc_unpacked : FnScope N_unpacked P_unpacked (defScope st_unpacked) := ⟨rfl, rfl, rfl, by decide +kernel, rfl, by decide +kernel, by decide +kernel⟩
theorem ok_unpacked : okSs ir_unpacked ⟨N_unpacked, defScope st_unpacked, false⟩ (defBody st_unpacked) = true := by decide +kernel
abbrev st__law_taken : Stmt := top 16
theorem sc__law_taken : FnScope N__law_taken P__law_taken (defScope st__law_taken) := ⟨rfl, rfl, rfl, by decide +kernel, rfl, by decide +kernel, by decide +kernel⟩
theorem ok__law_taken : okSs ir__law_taken ⟨N__law_taken, defScope st__law_taken, false⟩ (defBody st__law_taken) = true := by decide +kernel
abbrev st_law : Stmt := top 17
theorem sc_law : FnScope N_law P_law (defScope st_law) := ⟨rfl, rfl, rfl, by decide +kernel, rfl, by decide +kernel, by decide +kernel⟩
theorem ok_law : okSs ir_law ⟨N_law, defScope st_law, false⟩ (defBody st_law) = true := by decide +kernel
structure Txt (K : PySem.W.Frag) (mg : Str → Option Value) : Prop where
  d_is_number : DefAt K mg "is_number" st_is_number
  d_is_plain_number : DefAt K mg "is_plain_number" st_is_plain_number
  d_rooms : DefAt K mg "rooms" st_rooms
  d_packed : DefAt K mg "packed" st_packed
  d_unpacked : DefAt K mg "unpacked" st_unpacked
  d__law_taken : DefAt K mg "_law_taken" st__law_taken
  d_law : DefAt K mg "law" st_law
  b_all : mg "all" = none
  b_bool : mg "bool" = none
  b_int : mg "int" = none
  b_isinstance : mg "isinstance" = none
  b_len : mg "len" = none
  b_range : mg "range" = none
  b_sorted : mg "sorted" = none
  b_tuple : mg "tuple" = none
  g_MAX_WIDTH : ∃ t, mg "MAX_WIDTH" = some (.int 20 t)
  g_MAX_READING : ∃ t, mg "MAX_READING" = some (.int 1000000000000000 t)
section
variable {P : Program} {w : World} {K : PySem.W.Frag} {mg : Str → Option Value} {base : Heap}
theorem fn_is_number (T : Txt K mg) : FnL P w ⟨K, mg⟩ base 3 "is_number" S_is_number := by
  refine DefAt.fn (k := 0) (G := ⟨K, mg⟩) T.d_is_number sc_is_number ok_is_number ?_ (fun ds L Q x h => len_is_number h) vc_is_number fun _ _ _ _ _ _ us hl => match us, hl with | [_, _, _], _ => rfl
  have b_all := T.b_all
  have b_bool := T.b_bool
  have b_int := T.b_int
  have b_isinstance := T.b_isinstance
  have b_len := T.b_len
  have b_range := T.b_range
  have b_sorted := T.b_sorted
  have b_tuple := T.b_tuple
  obtain ⟨t_MAX_WIDTH, g_MAX_WIDTH⟩ := T.g_MAX_WIDTH
  obtain ⟨t_MAX_READING, g_MAX_READING⟩ := T.g_MAX_READING
  simp only [ir_is_number, OksSs, OksS, Oks, OksA, OksB, OksBs, OksO, OksI, tbOf, biName, isTy, true_and, and_true]
  try exact trivial
  all_goals (repeat' apply And.intro)
  all_goals first | exact trivial | exact b_all | exact b_bool | exact b_int | exact b_isinstance | exact b_len | exact b_range | exact b_sorted | exact b_tuple | exact (gv_int (G := ⟨K, mg⟩) g_MAX_WIDTH) | exact (gv_int (G := ⟨K, mg⟩) g_MAX_READING)
theorem fn_is_plain_number (T : Txt K mg) : FnL P w ⟨K, mg⟩ base 3 "is_plain_number" S_is_plain_number := by
  refine DefAt.fn (k := 0) (G := ⟨K, mg⟩) T.d_is_plain_number sc_is_plain_number ok_is_plain_number ?_ (fun ds L Q x h => len_is_plain_number h) vc_is_plain_number fun _ _ _ _ _ _ us hl => match us, hl with | [_], _ => rfl
  have b_all := T.b_all
  have b_bool := T.b_bool
  have b_int := T.b_int
  have b_isinstance := T.b_isinstance
  have b_len := T.b_len
  have b_range := T.b_range
  have b_sorted := T.b_sorted
  have b_tuple := T.b_tuple
  obtain ⟨t_MAX_WIDTH, g_MAX_WIDTH⟩ := T.g_MAX_WIDTH
  obtain ⟨t_MAX_READING, g_MAX_READING⟩ := T.g_MAX_READING
  simp only [tl_is_plain_number_1, ir_is_plain_number, OksSs, OksS, Oks, OksA, OksB, OksBs, OksO, OksI, tbOf, biName, isTy, true_and, and_true]
  try exact trivial
  all_goals (repeat' apply And.intro)
  all_goals first | exact trivial | exact b_all | exact b_bool | exact b_int | exact b_isinstance | exact b_len | exact b_range | exact b_sorted | exact b_tuple | exact (gv_int (G := ⟨K, mg⟩) g_MAX_WIDTH) | exact (gv_int (G := ⟨K, mg⟩) g_MAX_READING)
theorem fn_rooms (T : Txt K mg) : FnL P w ⟨K, mg⟩ base 6 "rooms" S_rooms := by
  refine DefAt.fn (k := 3) (G := ⟨K, mg⟩) T.d_rooms sc_rooms ok_rooms ?_ (fun ds L Q x h => len_rooms h) vc_rooms fun _ _ _ _ _ _ us hl => match us, hl with | [_, _], _ => rfl
  have b_all := T.b_all
  have b_bool := T.b_bool
  have b_int := T.b_int
  have b_isinstance := T.b_isinstance
  have b_len := T.b_len
  have b_range := T.b_range
  have b_sorted := T.b_sorted
  have b_tuple := T.b_tuple
  obtain ⟨t_MAX_WIDTH, g_MAX_WIDTH⟩ := T.g_MAX_WIDTH
  obtain ⟨t_MAX_READING, g_MAX_READING⟩ := T.g_MAX_READING
  have f_is_number : FnL P w ⟨K, mg⟩ base 3 "is_number" S_is_number := (fn_is_number T).mono (by decide)
  simp only [ir_rooms_1, tl_rooms_1, ir_rooms, OksSs, OksS, Oks, OksA, OksB, OksBs, OksO, OksI, tbOf, biName, isTy, true_and, and_true]
  try exact trivial
  all_goals (repeat' apply And.intro)
  all_goals first | exact trivial | exact f_is_number | exact b_all | exact b_bool | exact b_int | exact b_isinstance | exact b_len | exact b_range | exact b_sorted | exact b_tuple | exact (gv_int (G := ⟨K, mg⟩) g_MAX_WIDTH) | exact (gv_int (G := ⟨K, mg⟩) g_MAX_READING)
theorem fn_packed (T : Txt K mg) : FnL P w ⟨K, mg⟩ base 9 "packed" S_packed := by
  refine DefAt.fn (k := 6) (G := ⟨K, mg⟩) T.d_packed sc_packed ok_packed ?_ (fun ds L Q x h => len_packed h) vc_packed fun _ _ _ _ _ _ us hl => match us, hl with | [_, _, _], _ => rfl
  have b_all := T.b_all
  have b_bool := T.b_bool
  have b_int := T.b_int
  have b_isinstance := T.b_isinstance
  have b_len := T.b_len
  have b_range := T.b_range
  have b_sorted := T.b_sorted
  have b_tuple := T.b_tuple
  obtain ⟨t_MAX_WIDTH, g_MAX_WIDTH⟩ := T.g_MAX_WIDTH
  obtain ⟨t_MAX_READING, g_MAX_READING⟩ := T.g_MAX_READING
  have f_rooms : FnL P w ⟨K, mg⟩ base 6 "rooms" S_rooms := (fn_rooms T).mono (by decide)
  have f_is_plain_number : FnL P w ⟨K, mg⟩ base 6 "is_plain_number" S_is_plain_number := (fn_is_plain_number T).mono (by decide)
  simp only [tl_packed_4, tl_packed_3, tl_packed_2, tl_packed_1, ir_packed, OksSs, OksS, Oks, OksA, OksB, OksBs, OksO, OksI, tbOf, biName, isTy, true_and, and_true]
  try exact trivial
  all_goals (repeat' apply And.intro)
  all_goals first | exact trivial | exact f_rooms | exact f_is_plain_number | exact b_all | exact b_bool | exact b_int | exact b_isinstance | exact b_len | exact b_range | exact b_sorted | exact b_tuple | exact (gv_int (G := ⟨K, mg⟩) g_MAX_WIDTH) | exact (gv_int (G := ⟨K, mg⟩) g_MAX_READING)
theorem fn_unpacked (T : Txt K mg) : FnL P w ⟨K, mg⟩ base 9 "unpacked" S_unpacked := by
  refine DefAt.fn (k := 6) (G := ⟨K, mg⟩) T.d_unpacked sc_unpacked ok_unpacked ?_ (fun ds L Q x h => len_unpacked h) vc_unpacked fun _ _ _ _ _ _ us hl => match us, hl with | [_, _, _], _ => rfl
  have b_all := T.b_all
  have b_bool := T.b_bool
  have b_int := T.b_int
  have b_isinstance := T.b_isinstance
  have b_len := T.b_len
  have b_range := T.b_range
  have b_sorted := T.b_sorted
  have b_tuple := T.b_tuple
  obtain ⟨t_MAX_WIDTH, g_MAX_WIDTH⟩ := T.g_MAX_WIDTH
  obtain ⟨t_MAX_READING, g_MAX_READING⟩ := T.g_MAX_READING
  have f_rooms : FnL P w ⟨K, mg⟩ base 6 "rooms" S_rooms := (fn_rooms T).mono (by decide)
  have f_is_number : FnL P w ⟨K, mg⟩ base 6 "is_number" S_is_number := (fn_is_number T).mono (by decide)
  simp only [tl_unpacked_3, tl_unpacked_2, tl_unpacked_1, ir_unpacked, OksSs, OksS, Oks, OksA, OksB, OksBs, OksO, OksI, tbOf, biName, isTy, true_and, and_true]
  try exact trivial
  all_goals (repeat' apply And.intro)
  all_goals first | exact trivial | exact f_rooms | exact f_is_number | exact b_all | exact b_bool | exact b_int | exact b_isinstance | exact b_len | exact b_range | exact b_sorted | exact b_tuple | exact (gv_int (G := ⟨K, mg⟩) g_MAX_WIDTH) | exact (gv_int (G := ⟨K, mg⟩) g_MAX_READING)
theorem fn__law_taken (T : Txt K mg) : FnL P w ⟨K, mg⟩ base 3 "_law_taken" S__law_taken := by
  refine DefAt.fn (k := 0) (G := ⟨K, mg⟩) T.d__law_taken sc__law_taken ok__law_taken ?_ (fun ds L Q x h => len__law_taken h) vc__law_taken fun _ _ _ _ _ _ us hl => match us, hl with | [_, _], _ => rfl
  have b_all := T.b_all
  have b_bool := T.b_bool
  have b_int := T.b_int
  have b_isinstance := T.b_isinstance
  have b_len := T.b_len
  have b_range := T.b_range
  have b_sorted := T.b_sorted
  have b_tuple := T.b_tuple
  obtain ⟨t_MAX_WIDTH, g_MAX_WIDTH⟩ := T.g_MAX_WIDTH
  obtain ⟨t_MAX_READING, g_MAX_READING⟩ := T.g_MAX_READING
  simp only [tl__law_taken_1_2, tl__law_taken_1_1, ir__law_taken_1, tl__law_taken_2_1, ir__law_taken_2, tl__law_taken_6, tl__law_taken_5, tl__law_taken_4, tl__law_taken_3, tl__law_taken_2, tl__law_taken_1, ir__law_taken, OksSs, OksS, Oks, OksA, OksB, OksBs, OksO, OksI, tbOf, biName, isTy, true_and, and_true]
  try exact trivial
  all_goals (repeat' apply And.intro)
  all_goals first | exact trivial | exact b_all | exact b_bool | exact b_int | exact b_isinstance | exact b_len | exact b_range | exact b_sorted | exact b_tuple | exact (gv_int (G := ⟨K, mg⟩) g_MAX_WIDTH) | exact (gv_int (G := ⟨K, mg⟩) g_MAX_READING)
theorem ok_law_fn (T : Txt K mg) {a : Addr} {fd : FuncData} (F : Fun K "law" "law" st_law a fd) : FnOk P w K mg base (L2.CX P w) 12 a fd P_law (lift ⟨K, mg⟩ (lawS 63)) := by
  refine fnok_L (k := 9) (G := ⟨K, mg⟩) F sc_law ok_law ?_ (fun ds L Q x h => len_law h) vc_law
  have b_all := T.b_all
  have b_bool := T.b_bool
  have b_int := T.b_int
  have b_isinstance := T.b_isinstance
  have b_len := T.b_len
  have b_range := T.b_range
  have b_sorted := T.b_sorted
  have b_tuple := T.b_tuple
  obtain ⟨t_MAX_WIDTH, g_MAX_WIDTH⟩ := T.g_MAX_WIDTH
  obtain ⟨t_MAX_READING, g_MAX_READING⟩ := T.g_MAX_READING
  have f__law_taken : FnL P w ⟨K, mg⟩ base 9 "_law_taken" S__law_taken := (fn__law_taken T).mono (by decide)
  have f_unpacked : FnL P w ⟨K, mg⟩ base 9 "unpacked" S_unpacked := (fn_unpacked T).mono (by decide)
  have f_packed : FnL P w ⟨K, mg⟩ base 9 "packed" S_packed := (fn_packed T).mono (by decide)
  simp only [tl_law_2_7, tl_law_2_6, tl_law_2_5, tl_law_2_4, tl_law_2_3, tl_law_2_2, tl_law_2_1, ir_law_2, tl_law_3_1, ir_law_3, tl_law_1_9, tl_law_1_8, tl_law_1_7, tl_law_1_6, tl_law_1_5, tl_law_1_4, tl_law_1_3, tl_law_1_2, tl_law_1_1, ir_law_1, tl_law_2, tl_law_1, ir_law, OksSs, OksS, Oks, OksA, OksB, OksBs, OksO, OksI, tbOf, biName, isTy, true_and, and_true]
  try exact trivial
  all_goals (repeat' apply And.intro)
  all_goals first | exact trivial | exact f__law_taken | exact f_unpacked | exact f_packed | exact b_all | exact b_bool | exact b_int | exact b_isinstance | exact b_len | exact b_range | exact b_sorted | exact b_tuple | exact (gv_int (G := ⟨K, mg⟩) g_MAX_WIDTH) | exact (gv_int (G := ⟨K, mg⟩) g_MAX_READING)
end
theorem all_mk {l : PySem.W.OpenLaw} {w : World} {K : PySem.W.Frag} {h : Heap} {mg : Str → Option Value} {fa f0 f1 f2 f3 f4 f5 f6 : Addr} {od0 an0 od1 an1 od2 an2 od3 an3 od4 an4 od5 an5 od6 an6 : Option Addr} {sl0 sl1 sl2 sl3 sl4 sl5 sl6 : Array (Option Value)} {oc0 kV0 dc0 pm0 cd0 ct0 oc1 kV1 dc1 pm1 cd1 ct1 oc2 kV2 dc2 pm2 cd2 ct2 oc3 kV3 dc3 pm3 cd3 ct3 oc4 kV4 dc4 pm4 cd4 ct4 oc5 kV5 dc5 pm5 cd5 ct5 oc6 kV6 dc6 pm6 cd6 ct6 : Value} {t_MAX_WIDTH t_MAX_READING : Tok} (X : K.In h) (G : h.Ns mainGlobals mg) (hfa : mg "law" = some (.ref fa))
    (a0 : PySem.W.nsIn K mainGlobals "is_number" = some (some (.ref f0))) (l0 : K.lookup f0 = some ⟨oc0, od0, .func (PySem.W.fnOf "is_number" "is_number" (defArgs st_is_number) (defBody st_is_number) (defScope st_is_number) .none kV0 dc0 pm0 an0 cd0 ct0), sl0⟩) (c0 : PySem.W.codeIn K cd0 "is_number" = true) (k0 : PySem.W.keepIn K (.ref f0) = true)
    (a1 : PySem.W.nsIn K mainGlobals "is_plain_number" = some (some (.ref f1))) (l1 : K.lookup f1 = some ⟨oc1, od1, .func (PySem.W.fnOf "is_plain_number" "is_plain_number" (defArgs st_is_plain_number) (defBody st_is_plain_number) (defScope st_is_plain_number) .none kV1 dc1 pm1 an1 cd1 ct1), sl1⟩) (c1 : PySem.W.codeIn K cd1 "is_plain_number" = true) (k1 : PySem.W.keepIn K (.ref f1) = true)
    (a2 : PySem.W.nsIn K mainGlobals "rooms" = some (some (.ref f2))) (l2 : K.lookup f2 = some ⟨oc2, od2, .func (PySem.W.fnOf "rooms" "rooms" (defArgs st_rooms) (defBody st_rooms) (defScope st_rooms) .none kV2 dc2 pm2 an2 cd2 ct2), sl2⟩) (c2 : PySem.W.codeIn K cd2 "rooms" = true) (k2 : PySem.W.keepIn K (.ref f2) = true)
    (a3 : PySem.W.nsIn K mainGlobals "packed" = some (some (.ref f3))) (l3 : K.lookup f3 = some ⟨oc3, od3, .func (PySem.W.fnOf "packed" "packed" (defArgs st_packed) (defBody st_packed) (defScope st_packed) .none kV3 dc3 pm3 an3 cd3 ct3), sl3⟩) (c3 : PySem.W.codeIn K cd3 "packed" = true) (k3 : PySem.W.keepIn K (.ref f3) = true)
    (a4 : PySem.W.nsIn K mainGlobals "unpacked" = some (some (.ref f4))) (l4 : K.lookup f4 = some ⟨oc4, od4, .func (PySem.W.fnOf "unpacked" "unpacked" (defArgs st_unpacked) (defBody st_unpacked) (defScope st_unpacked) .none kV4 dc4 pm4 an4 cd4 ct4), sl4⟩) (c4 : PySem.W.codeIn K cd4 "unpacked" = true) (k4 : PySem.W.keepIn K (.ref f4) = true)
    (a5 : PySem.W.nsIn K mainGlobals "_law_taken" = some (some (.ref f5))) (l5 : K.lookup f5 = some ⟨oc5, od5, .func (PySem.W.fnOf "_law_taken" "_law_taken" (defArgs st__law_taken) (defBody st__law_taken) (defScope st__law_taken) .none kV5 dc5 pm5 an5 cd5 ct5), sl5⟩) (c5 : PySem.W.codeIn K cd5 "_law_taken" = true) (k5 : PySem.W.keepIn K (.ref f5) = true)
    (a6 : PySem.W.nsIn K mainGlobals "law" = some (some (.ref f6))) (l6 : K.lookup f6 = some ⟨oc6, od6, .func (PySem.W.fnOf "law" "law" (defArgs st_law) (defBody st_law) (defScope st_law) .none kV6 dc6 pm6 an6 cd6 ct6), sl6⟩) (c6 : PySem.W.codeIn K cd6 "law" = true) (k6 : PySem.W.keepIn K (.ref f6) = true)
    (zb_all : PySem.W.nsIn K mainGlobals "all" = some none)
    (zb_bool : PySem.W.nsIn K mainGlobals "bool" = some none)
    (zb_int : PySem.W.nsIn K mainGlobals "int" = some none)
    (zb_isinstance : PySem.W.nsIn K mainGlobals "isinstance" = some none)
    (zb_len : PySem.W.nsIn K mainGlobals "len" = some none)
    (zb_range : PySem.W.nsIn K mainGlobals "range" = some none)
    (zb_sorted : PySem.W.nsIn K mainGlobals "sorted" = some none)
    (zb_tuple : PySem.W.nsIn K mainGlobals "tuple" = some none)
    (zg_MAX_WIDTH : PySem.W.nsIn K mainGlobals "MAX_WIDTH" = some (some (.int 20 t_MAX_WIDTH)))
    (zg_MAX_READING : PySem.W.nsIn K mainGlobals "MAX_READING" = some (some (.int 1000000000000000 t_MAX_READING)))
    : ∃ fd : FuncData, (∀ (s : Shared) (v : Value), BindsTo s fd ⟨[v], []⟩ [("_law_script", v)]) ∧ ∀ base : Heap, K.In base → base.Ns mainGlobals mg → FnOk l.prog w K mg base (L2.CX l.prog w) 12 fa fd ["_law_script"] (lift ⟨K, mg⟩ (lawS 63)) := by
  have e := hfa.symm.trans (PySem.W.mg_of X G a6)
  cases e
  have T : Txt K mg := ⟨DefAt.mk' X G a0 l0 c0 k0, DefAt.mk' X G a1 l1 c1 k1, DefAt.mk' X G a2 l2 c2 k2, DefAt.mk' X G a3 l3 c3 k3, DefAt.mk' X G a4 l4 c4 k4, DefAt.mk' X G a5 l5 c5 k5, DefAt.mk' X G a6 l6 c6 k6, PySem.W.mg_none_of X G zb_all, PySem.W.mg_none_of X G zb_bool, PySem.W.mg_none_of X G zb_int, PySem.W.mg_none_of X G zb_isinstance, PySem.W.mg_none_of X G zb_len, PySem.W.mg_none_of X G zb_range, PySem.W.mg_none_of X G zb_sorted, PySem.W.mg_none_of X G zb_tuple, ⟨_, PySem.W.mg_of X G zg_MAX_WIDTH⟩, ⟨_, PySem.W.mg_of X G zg_MAX_READING⟩⟩
  exact ⟨_, fun s v => .of_eq rfl, fun base _ _ => ok_law_fn T (fun_mk (st := st_law) l6 c6 k6)⟩
end K53

open PySem PySem.W PyProof.Rows in
set_option maxRecDepth 100000 in
set_option maxHeartbeats 0 in
theorem PySem.Challenge.cw_manymakers_k53_whole_numbers_packed_in_o_holds : PySem.Challenge.rw_manymakers_k53_whole_numbers_packed_in_o.Holds := by
  w_on; o_law; k_head; (case hw => w_witness2)
  k_fill
  refine Lg.walk_L (l := PySem.Challenge.rw_manymakers_k53_whole_numbers_packed_in_o) (n := 63) (k := 12) (x := "_law_script") rfl (by decide) rfl ⟨rfl, by decide, by decide⟩ (fun w h Y => PySem.W.kIn_of Y) ?F
  case F =>
    intro w mg fa h KX G hmg
    refine' K53.all_mk KX G hmg ?a0 ?l0 ?c0 ?k0 ?a1 ?l1 ?c1 ?k1 ?a2 ?l2 ?c2 ?k2 ?a3 ?l3 ?c3 ?k3 ?a4 ?l4 ?c4 ?k4 ?a5 ?l5 ?c5 ?k5 ?a6 ?l6 ?c6 ?k6 ?zb_all ?zb_bool ?zb_int ?zb_isinstance ?zb_len ?zb_range ?zb_sorted ?zb_tuple ?zg_MAX_WIDTH ?zg_MAX_READING
    (case a0 => k_is)
    (case l0 => k_is)
    (case c0 => k_is)
    (case k0 => k_is)
    (case a1 => k_is)
    (case l1 => k_is)
    (case c1 => k_is)
    (case k1 => k_is)
    (case a2 => k_is)
    (case l2 => k_is)
    (case c2 => k_is)
    (case k2 => k_is)
    (case a3 => k_is)
    (case l3 => k_is)
    (case c3 => k_is)
    (case k3 => k_is)
    (case a4 => k_is)
    (case l4 => k_is)
    (case c4 => k_is)
    (case k4 => k_is)
    (case a5 => k_is)
    (case l5 => k_is)
    (case c5 => k_is)
    (case k5 => k_is)
    (case a6 => k_is)
    (case l6 => k_is)
    (case c6 => k_is)
    (case k6 => k_is)
    (case zb_all => k_is)
    (case zb_bool => k_is)
    (case zb_int => k_is)
    (case zb_isinstance => k_is)
    (case zb_len => k_is)
    (case zb_range => k_is)
    (case zb_sorted => k_is)
    (case zb_tuple => k_is)
    (case zg_MAX_WIDTH => k_is)
    (case zg_MAX_READING => k_is)
#print axioms PySem.Challenge.cw_manymakers_k53_whole_numbers_packed_in_o_holds
