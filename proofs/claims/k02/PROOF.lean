import PyProof.Rows.All
import Wide.All
import OpenK.AllK
import Wide.FinOn
import HandS.ForMost
import HandS.ForExc
import KE.KDictKeyed
import KE.SortData
import KE.SortKeyHeap
import KE.DataCmp
import KE.DataEq
import HandS.TupAny
import HandS.IsInst
import HandS.Wide
import HandS.Deep
import HandS.Conv
import HandS.More
import HandS.Lambda
import HandS.EndTab
import HandS.TupLen
import HandS.DictComp
import HandS.TryOnly
import HandS.Style
import HandS.ListItems
import PySem.Challenge.RW_ledgertrace_k02_whole_semiring
set_option Elab.async false
set_option linter.all false
set_option maxRecDepth 100000
set_option autoImplicit false
set_option maxHeartbeats 2000000
/-! PV1: data as trees, what stands in the abstract heap for a tree, the state of a body. -/
namespace PV
open PySem L2

abbrev D := PyData
abbrev Rho := List (Option D)

/-- kinds of slots: a value that never changes; lent for reading; a list or dict of one's own; one that the caller gave to be changed -/
inductive Kd where
  | val | bor | own | inn
  deriving DecidableEq

structure Wd where
  P : Program
  w : World
  K : PySem.W.Frag

/-- a frozen list -/
def FzL (K : PySem.W.Frag) (H : Hp) (a : Addr) (vs : List V) : Prop :=
  (∃ o, H a = some (.frz o (.lst vs))) ∨
    ∃ (its : List Value) (n : Nat), K.lookup a = some { cls := .type "list", data := .seq its.toArray n } ∧ its.length ≤ sizeLine ∧ Vals vs its

theorem FzL.sq {K : PySem.W.Frag} {H : Hp} {a : Addr} {vs : List V} (h : FzL K H a vs) : SqL K H a vs := by
  rcases h with ⟨o, h⟩ | h
  · exact .inl (.inr ⟨o, h⟩)
  · obtain ⟨its, n, e, z, r⟩ := h
    exact .inr ⟨_, its.toArray, n, e, rfl, rfl, rfl, by simpa using z, by simpa using r⟩

/-- the kind of key that a tree is -/
def nk : D → NestedKey
  | .none => .none
  | .bool b => .num (if b then 1 else 0)
  | .int i => .num i
  | .str s => .text s
  | .tuple ds => .tup (ds.map nk)
  | _ => .none

mutual
def keyOk : D → Bool
  | .none => true
  | .bool _ => true
  | .int _ => true
  | .str _ => true
  | .tuple ds => keyOks ds
  | _ => false
def keyOks : List D → Bool
  | [] => true
  | d :: ds => keyOk d && keyOks ds
end
/-- 1: an int or a text; 2: a tuple -/
def keyKd : D → Nat
  | .int _ => 1
  | .str _ => 1
  | .tuple ds => if keyOks ds && decide ((nk (.tuple ds)).depth ≤ 8) then 2 else 0
  | _ => 0

/-- raw dict, keys at addresses -/
abbrev NdP : List (NestedKey × Addr × V) → List (NestedKey × Addr × Value) → Prop := Paired fun x y => x.1 = y.1 ∧ x.2.1 = y.2.1 ∧ RelV x.2.2 y.2.2
def ndPhi (g : Wd) (a : Addr) (xs : List (NestedKey × Addr × V)) : Heap → Prop := fun h =>
  (a == sysModules) = false ∧ xs.length ≤ sizeLine ∧ (xs.map (·.1)).Nodup ∧ ∃ ys : List (NestedKey × Addr × Value), NdP xs ys ∧
    ∃ (o : Obj) (es : Array DictEntry) (ep : Nat), h.get? a = some o ∧ o.ExactDict ∧ o.data = .dict es ep ∧ es.toList = ys.map (entryOfKey (nestedKind g.P g.w))

/-- the shape of a dict's object: its keys (with their trees) and values -/
def DSh (g : Wd) (a : Addr) (u : HO) (ds : List D) (ks : List (V × V)) : Prop :=
  (∃ l : List (Key × V), u = .dK l ∧ ks = l.map fun p => (kV p.1, p.2)) ∨
    (∃ xs : List (NestedKey × Addr × V), (xs ≠ [] ∧ ∀ q, HO.ext (ndPhi g a xs) ≠ LamX.CodeO a q) ∧ u = .ext (ndPhi g a xs) ∧ ks = xs.map (fun x => (V.ref x.2.1, x.2.2)) ∧ xs.map (·.1) = ds.map nk ∧ ∀ d ∈ ds, keyKd d = 2)

mutual
def Rep (g : Wd) (H : Hp) : D → V → Prop
  | .none, v => v = .non
  | .bool b, v => v = .bl b
  | .int i, v => v = .int i
  | .str s, v => v = .str s
  | .tuple ds, v => ∃ a vs, v = .ref a ∧ SqT g.K H a vs ∧ Reps g H ds vs
  | .list ds, v => ∃ a vs, v = .ref a ∧ FzL g.K H a vs ∧ Reps g H ds vs
  | .dict kvs, v => ∃ a o u ks, v = .ref a ∧ H a = some (.frz o u) ∧ DSh g a u (kvs.map (·.1)) ks ∧ RepKs g H kvs ks
def Reps (g : Wd) (H : Hp) : List D → List V → Prop
  | [], vs => vs = []
  | d :: ds, vs => ∃ v r, vs = v :: r ∧ Rep g H d v ∧ Reps g H ds r
def RepKs (g : Wd) (H : Hp) : List (D × D) → List (V × V) → Prop
  | [], ks => ks = []
  | (a, b) :: r, ks => ∃ x y t, ks = (x, y) :: t ∧ Rep g H a x ∧ Rep g H b y ∧ RepKs g H r t
end

/-- tuples and frozen things stay, nothing is forgotten -/
structure Kept (H H' : Hp) : Prop where
  t : ∀ a xs, H a = some (.tup xs) → H' a = some (.tup xs)
  f : ∀ a o u, H a = some (.frz o u) → H' a = some (.frz o u)
  d : ∀ a, H' a = none → H a = none
theorem Kept.refl (H : Hp) : Kept H H := ⟨fun _ _ h => h, fun _ _ _ h => h, fun _ h => h⟩
theorem Kept.trans {H H1 H2 : Hp} (a : Kept H H1) (b : Kept H1 H2) : Kept H H2 := ⟨fun c xs h => b.t c xs (a.t c xs h), fun c o u h => b.f c o u (a.f c o u h), fun c h => a.d c (b.d c h)⟩
theorem Kept.of_same {H H' : Hp} (s : Same H H') : Kept H H' := ⟨fun a xs h => s a _ h, fun a o u h => s a _ h, fun a h => s.free h⟩
theorem upd_none {H : Hp} {p a : Addr} {o : HO} (h : upd H p o a = none) : H a = none := by
  by_cases e : a = p
  · subst e; rw [upd_same] at h; cases h
  · rw [upd_ne e] at h; exact h
theorem Kept.new {H : Hp} {p : Addr} {o : HO} (h : H p = none) : Kept H (upd H p o) :=
  ⟨fun a xs e => by rw [upd_ne (ne_of_none e h)]; exact e, fun a ob u e => by rw [upd_ne (ne_of_none e h)]; exact e, fun a h => upd_none h⟩
/-- a mutable thing is written -/
theorem Kept.put {H : Hp} {p : Addr} {o : HO} (m : Mut (H p)) : Kept H (upd H p o) := by
  refine ⟨fun a xs e => ?_, fun a ob u e => ?_, fun a h => upd_none h⟩
  · have : a ≠ p := by rintro rfl; rw [e] at m; exact m
    rw [upd_ne this]; exact e
  · have : a ≠ p := by rintro rfl; rw [e] at m; exact m
    rw [upd_ne this]; exact e

theorem Kept.sqT {K : PySem.W.Frag} {H H' : Hp} {a : Addr} {vs : List V} (k : Kept H H') (h : SqT K H a vs) : SqT K H' a vs := by
  rcases h with (h | ⟨o, h⟩) | h
  · exact .inl (.inl (k.t _ _ h))
  · exact .inl (.inr ⟨o, k.f _ _ _ h⟩)
  · exact .inr h
theorem Kept.fzL {K : PySem.W.Frag} {H H' : Hp} {a : Addr} {vs : List V} (k : Kept H H') (h : FzL K H a vs) : FzL K H' a vs := by
  rcases h with ⟨o, h⟩ | h
  · exact .inl ⟨o, k.f _ _ _ h⟩
  · exact .inr h

mutual
theorem Rep.mono {g : Wd} {H H' : Hp} (k : Kept H H') : ∀ (d : D) {v : V}, Rep g H d v → Rep g H' d v
  | .none, _, h => h
  | .bool _, _, h => h
  | .int _, _, h => h
  | .str _, _, h => h
  | .tuple ds, _, h => by
    rw [Rep] at h ⊢
    obtain ⟨a, vs, e, q, r⟩ := h
    exact ⟨a, vs, e, k.sqT q, Reps.mono k ds r⟩
  | .list ds, _, h => by
    rw [Rep] at h ⊢
    obtain ⟨a, vs, e, q, r⟩ := h
    exact ⟨a, vs, e, k.fzL q, Reps.mono k ds r⟩
  | .dict kvs, _, h => by
    rw [Rep] at h ⊢
    obtain ⟨a, o, u, ks, e, q, s, r⟩ := h
    exact ⟨a, o, u, ks, e, k.f _ _ _ q, s, RepKs.mono k kvs r⟩
theorem Reps.mono {g : Wd} {H H' : Hp} (k : Kept H H') : ∀ (ds : List D) {vs : List V}, Reps g H ds vs → Reps g H' ds vs
  | [], _, h => h
  | d :: ds, _, h => by
    rw [Reps] at h ⊢
    obtain ⟨v, r, e, h1, h2⟩ := h
    exact ⟨v, r, e, Rep.mono k d h1, Reps.mono k ds h2⟩
theorem RepKs.mono {g : Wd} {H H' : Hp} (k : Kept H H') : ∀ (kvs : List (D × D)) {ks : List (V × V)}, RepKs g H kvs ks → RepKs g H' kvs ks
  | [], _, h => h
  | (a, b) :: r, _, h => by
    rw [RepKs] at h ⊢
    obtain ⟨x, y, t, e, h1, h2, h3⟩ := h
    exact ⟨x, y, t, e, Rep.mono k a h1, Rep.mono k b h2, RepKs.mono k r h3⟩
end

theorem Reps.length {g : Wd} {H : Hp} : ∀ {ds : List D} {vs : List V}, Reps g H ds vs → vs.length = ds.length
  | [], _, h => by rw [Reps] at h; rw [h]; rfl
  | d :: ds, _, h => by
    rw [Reps] at h
    obtain ⟨v, r, e, h1, h2⟩ := h
    rw [e, List.length_cons, List.length_cons, Reps.length h2]
theorem Reps.get {g : Wd} {H : Hp} : ∀ {ds : List D} {vs : List V} {i : Nat} {v : V}, Reps g H ds vs → vs[i]? = some v → ∃ d, ds[i]? = some d ∧ Rep g H d v
  | [], _, i, v, h, e => by rw [Reps] at h; rw [h] at e; simp at e
  | d :: ds, _, i, v, h, e => by
    rw [Reps] at h
    obtain ⟨x, r, rfl, h1, h2⟩ := h
    cases i with
    | zero =>
      have e' : x = v := by simpa using e
      exact ⟨d, by simp, e' ▸ h1⟩
    | succ i =>
      obtain ⟨y, h3, h4⟩ := Reps.get (i := i) (v := v) h2 (by simpa using e)
      exact ⟨y, by simpa using h3, h4⟩
theorem Reps.getD {g : Wd} {H : Hp} : ∀ {ds : List D} {vs : List V} {i : Nat} {d : D}, Reps g H ds vs → ds[i]? = some d → ∃ v, vs[i]? = some v ∧ Rep g H d v
  | [], _, i, v, h, e => by simp at e
  | x :: ds, _, i, d, h, e => by
    rw [Reps] at h
    obtain ⟨v, r, rfl, h1, h2⟩ := h
    cases i with
    | zero =>
      have e' : x = d := by simpa using e
      exact ⟨v, by simp, e' ▸ h1⟩
    | succ i =>
      obtain ⟨y, h3, h4⟩ := Reps.getD (i := i) (d := d) h2 (by simpa using e)
      exact ⟨y, by simpa using h3, h4⟩
theorem Reps.nil {g : Wd} {H : Hp} : Reps g H [] [] := by rw [Reps]
theorem Reps.cons {g : Wd} {H : Hp} {d : D} {ds : List D} {v : V} {vs : List V} (h : Rep g H d v) (t : Reps g H ds vs) : Reps g H (d :: ds) (v :: vs) := by
  rw [Reps]; exact ⟨v, vs, rfl, h, t⟩
theorem Reps.append {g : Wd} {H : Hp} : ∀ {ds es : List D} {vs us : List V}, Reps g H ds vs → Reps g H es us → Reps g H (ds ++ es) (vs ++ us)
  | [], _, _, _, h, t => by rw [Reps] at h; rw [h]; exact t
  | d :: ds, _, _, _, h, t => by
    rw [Reps] at h
    obtain ⟨v, r, rfl, h1, h2⟩ := h
    exact .cons h1 (Reps.append h2 t)
theorem Reps.take {g : Wd} {H : Hp} : ∀ {ds : List D} {vs : List V} (n : Nat), Reps g H ds vs → Reps g H (ds.take n) (vs.take n)
  | _, _, 0, _ => by simp only [List.take_zero]; exact .nil
  | [], _, n + 1, h => by rw [Reps] at h; rw [h]; simp only [List.take_nil]; exact .nil
  | d :: ds, _, n + 1, h => by
    rw [Reps] at h
    obtain ⟨v, r, rfl, h1, h2⟩ := h
    simp only [List.take_succ_cons]
    exact .cons h1 (Reps.take n h2)
theorem Reps.drop {g : Wd} {H : Hp} : ∀ {ds : List D} {vs : List V} (n : Nat), Reps g H ds vs → Reps g H (ds.drop n) (vs.drop n)
  | _, _, 0, h => by simpa using h
  | [], _, n + 1, h => by rw [Reps] at h; rw [h]; simp only [List.drop_nil]; exact .nil
  | d :: ds, _, n + 1, h => by
    rw [Reps] at h
    obtain ⟨v, r, rfl, h1, h2⟩ := h
    simp only [List.drop_succ_cons]
    exact Reps.drop n h2
theorem Reps.set {g : Wd} {H : Hp} {d : D} {v : V} (hd : Rep g H d v) : ∀ {ds : List D} {vs : List V} (i : Nat), Reps g H ds vs → Reps g H (ds.set i d) (vs.set i v)
  | [], _, i, h => by rw [Reps] at h; rw [h]; simp only [List.set_nil]; exact .nil
  | x :: ds, _, i, h => by
    rw [Reps] at h
    obtain ⟨u, r, rfl, h1, h2⟩ := h
    cases i with
    | zero => simp only [List.set_cons_zero]; exact .cons hd h2
    | succ i => simp only [List.set_cons_succ]; exact .cons h1 (Reps.set hd i h2)
theorem Reps.eraseIdx {g : Wd} {H : Hp} : ∀ {ds : List D} {vs : List V} (i : Nat), Reps g H ds vs → Reps g H (ds.eraseIdx i) (vs.eraseIdx i)
  | [], _, i, h => by rw [Reps] at h; rw [h]; simp only [List.eraseIdx_nil]; exact .nil
  | x :: ds, _, i, h => by
    rw [Reps] at h
    obtain ⟨u, r, rfl, h1, h2⟩ := h
    cases i with
    | zero => simp only [List.eraseIdx_cons_zero]; exact h2
    | succ i => simp only [List.eraseIdx_cons_succ]; exact .cons h1 (Reps.eraseIdx i h2)
theorem Reps.reverse {g : Wd} {H : Hp} : ∀ {ds : List D} {vs : List V}, Reps g H ds vs → Reps g H ds.reverse vs.reverse
  | [], _, h => by rw [Reps] at h; rw [h]; simp only [List.reverse_nil]; exact .nil
  | x :: ds, _, h => by
    rw [Reps] at h
    obtain ⟨u, r, rfl, h1, h2⟩ := h
    simp only [List.reverse_cons]
    exact Reps.append (Reps.reverse h2) (.cons h1 .nil)

/-- a list or a dict that may still change -/
def Top (g : Wd) (H : Hp) (p : Addr) : D → Prop
  | .list ds => ∃ vs, H p = some (.lst vs) ∧ Reps g H ds vs
  | .dict kvs => ∃ u ks, H p = some u ∧ DSh g p u (kvs.map (·.1)) ks ∧ RepKs g H kvs ks
  | _ => False
theorem Top.mut {g : Wd} {H : Hp} {p : Addr} {d : D} (h : Top g H p d) : Mut (H p) := by
  cases d with
  | list ds => obtain ⟨vs, e, _⟩ := h; rw [e]; trivial
  | dict kvs =>
    obtain ⟨u, ks, e, s, _⟩ := h
    rw [e]
    rcases s with ⟨l, rfl, _⟩ | ⟨xs, _, rfl, _⟩ <;> trivial
  | _ => exact h.elim
theorem Top.code {g : Wd} {H : Hp} {p : Addr} {d : D} (h : Top g H p d) : (∀ q, H p ≠ some (LamX.CodeO p q)) ∧ ∀ ps, H p ≠ some (.tbl ps) := by
  cases d with
  | list ds => obtain ⟨vs, e, _⟩ := h; rw [e]; exact ⟨fun q z => (nomatch (Option.some.inj z)), fun q z => (nomatch (Option.some.inj z))⟩
  | dict kvs =>
    obtain ⟨u, ks, e, s, _⟩ := h
    rw [e]
    rcases s with ⟨l, rfl, _⟩ | ⟨xs, hne, rfl, _⟩
    · exact ⟨fun q z => (nomatch (Option.some.inj z)), fun q z => (nomatch (Option.some.inj z))⟩
    · exact ⟨fun q z => hne.2 q (Option.some.inj z), fun q z => (nomatch (Option.some.inj z))⟩
  | _ => exact h.elim
/-- the tables stand while one's own things are written -/
theorem tabs_upd {T : List (Addr × Str)} {H : Hp} {p : Addr} {o : HO} (t : LamX.Tabs T H) (h : (∀ q, H p ≠ some (LamX.CodeO p q)) ∧ ∀ ps, H p ≠ some (.tbl ps)) : LamX.Tabs T (upd H p o) := fun x hx => by
  obtain ⟨ps, h1, h2, h3⟩ := t x hx
  refine ⟨ps, ?_, h2, fun pos cv hc => ?_⟩
  · rw [upd_ne (fun z => h.2 ps (by rw [← z]; exact h1))]; exact h1
  · obtain ⟨c, e1, e2⟩ := h3 pos cv hc
    refine ⟨c, e1, ?_⟩
    rw [upd_ne (fun z => h.1 x.2 (by subst z; exact e2))]; exact e2
theorem Top.mono {g : Wd} {H H' : Hp} {p : Addr} {d : D} (k : Kept H H') (e : H' p = H p) (h : Top g H p d) : Top g H' p d := by
  cases d with
  | list ds => obtain ⟨vs, q, r⟩ := h; exact ⟨vs, e.trans q, Reps.mono k ds r⟩
  | dict kvs => obtain ⟨u, ks, q, s, r⟩ := h; exact ⟨u, ks, e.trans q, s, RepKs.mono k kvs r⟩
  | _ => exact h.elim

def isOwn : Option Kd → Bool
  | some .own => true
  | some .inn => true
  | _ => false

/-- what is to be read -/
def BRep (g : Wd) (H : Hp) (d : D) (v : V) : Prop := Rep g H d v ∨ ∃ p, v = .ref p ∧ Top g H p d

/-- what is lent: the addresses, what the lent slots hold -/
structure Lent where
  ad : Addr → Prop
  sl : Nat → Option (D × V)
instance : CoeFun Lent fun _ => Addr → Prop := ⟨Lent.ad⟩

/-- the state of a body: H0 is the heap at the start, M what may be changed of it, B what is lent -/
structure Stt (g : Wd) (T : List (Addr × Str)) (ks : List Kd) (H0 : Hp) (M : Addr → Prop) (B : Lent) (H : Hp) (σ : L2.St) (ρ : Rho) : Prop where
  len : ρ.length = σ.length
  frame : ∀ a o, H0 a = some o → ¬ M a → (∀ ps, o ≠ .tbl ps) → H a = some o
  val : ∀ (i : Nat) (d : D), ρ[i]? = some (some d) → ks[i]? = some .val → ∃ v, σ[i]? = some (some v) ∧ Rep g H d v
  bor : ∀ (i : Nat) (d : D), ρ[i]? = some (some d) → ks[i]? = some .bor → ∃ v, σ[i]? = some (some v) ∧ B.sl i = some (d, v)
  own : ∀ (i : Nat) (d : D), ρ[i]? = some (some d) → isOwn ks[i]? = true → ∃ p, σ[i]? = some (some (.ref p)) ∧ Top g H p d ∧ (M p ∨ H0 p = none) ∧ ¬ B p
  apart : ∀ (i j : Nat) (d e : D) (p : Addr), i ≠ j → ρ[i]? = some (some d) → ρ[j]? = some (some e) → isOwn ks[i]? = true → isOwn ks[j]? = true → σ[i]? = some (some (.ref p)) → σ[j]? ≠ some (some (.ref p))
  kinds : ∀ (i : Nat) (d : D), ρ[i]? = some (some d) → ∃ k, ks[i]? = some k
  bh : ∀ p, B p → H p ≠ none
  bsl : ∀ (i : Nat) (d : D) (v : V), B.sl i = some (d, v) → Rep g H d v ∨ ∃ p, v = .ref p ∧ Top g H p d ∧ B p
  tabs : LamX.Tabs T H
  frT : ∀ a ps, H0 a = some (.tbl ps) → ∃ ps', H a = some (.tbl ps')

section
variable {g : Wd} {T : List (Addr × Str)} {ks : List Kd} {H0 H H' : Hp} {M : Addr → Prop} {B : Lent} {σ : L2.St} {ρ : Rho}

theorem Top.there {p : Addr} {d : D} (t : Top g H p d) : H p ≠ none := fun n => by
  have m := t.mut
  rw [n] at m; exact m
theorem Top.stay {p : Addr} {d : D} (k : Kept H H') (s : ∀ o, H p = some o → H' p = some o) (t : Top g H p d) : Top g H' p d := by
  cases q : H p with
  | none => exact absurd q t.there
  | some o => exact t.mono k ((s o q).trans q.symm)
theorem Top.same {p : Addr} {d : D} (s : Same H H') (t : Top g H p d) : Top g H' p d := t.stay (Kept.of_same s) fun o q => s p o q
theorem BRep.same {d : D} {v : V} (s : Same H H') (h : BRep g H d v) : BRep g H' d v := by
  rcases h with h | ⟨p, e, t⟩
  · exact .inl (h.mono (Kept.of_same s))
  · exact .inr ⟨p, e, t.same s⟩
/-- new things laid: nothing that stood is changed -/
theorem Stt.same (G : Stt g T ks H0 M B H σ ρ) (s : Same H H') : Stt g T ks H0 M B H' σ ρ := by
  have k := Kept.of_same s
  refine ⟨G.len, fun a o h n nt => s a o (G.frame a o h n nt), fun i d h1 h2 => ?_, G.bor, fun i d h1 h2 => ?_, G.apart, G.kinds, fun p hp n => ?_, fun i d v h => ?_, G.tabs.ext s, fun a ps h => let ⟨ps', z⟩ := G.frT a ps h; ⟨ps', s a _ z⟩⟩
  · obtain ⟨v, e, r⟩ := G.val i d h1 h2
    exact ⟨v, e, r.mono k⟩
  · obtain ⟨p, e, t, m⟩ := G.own i d h1 h2
    exact ⟨p, e, t.same s, m⟩
  · cases q : H p with
    | none => exact G.bh p hp q
    | some o => rw [s p o q] at n; cases n
  · rcases G.bsl i d v h with r | ⟨p, e2, t, b⟩
    · exact .inl (r.mono k)
    · exact .inr ⟨p, e2, t.same s, b⟩

theorem same_new {p : Addr} {o : HO} (h : H p = none) : Same H (upd H p o) := fun b x e => by
  rw [upd_ne (ne_of_none e h)]; exact e

theorem Stt.read (G : Stt g T ks H0 M B H σ ρ) {i : Nat} {d : D} (h : ρ[i]? = some (some d)) : ∃ v, σ[i]? = some (some v) ∧ BRep g H d v := by
  obtain ⟨k, hk⟩ := G.kinds i d h
  cases k with
  | val => obtain ⟨v, e, r⟩ := G.val i d h hk; exact ⟨v, e, .inl r⟩
  | bor =>
    obtain ⟨v, e, b⟩ := G.bor i d h hk
    rcases G.bsl i d v b with r | ⟨p, e2, t, _⟩
    · exact ⟨v, e, .inl r⟩
    · exact ⟨v, e, .inr ⟨p, e2, t⟩⟩
  | own => obtain ⟨p, e, t, _⟩ := G.own i d h (by rw [hk]; rfl); exact ⟨_, e, .inr ⟨p, rfl, t⟩⟩
  | inn => obtain ⟨p, e, t, _⟩ := G.own i d h (by rw [hk]; rfl); exact ⟨_, e, .inr ⟨p, rfl, t⟩⟩

theorem set_ne {α : Type} {l : List α} {i j : Nat} {x : α} (h : j ≠ i) : (l.set i x)[j]? = l[j]? := List.getElem?_set_ne (Ne.symm h)

/-- the list that one's own slot i holds is written -/
theorem Stt.write (G : Stt g T ks H0 M B H σ ρ) {i : Nat} {d d' : D} {p : Addr} {o : HO} (h : ρ[i]? = some (some d)) (ho : isOwn ks[i]? = true) (hp : σ[i]? = some (some (.ref p)))
    (t' : Top g (upd H p o) p d') : Stt g T ks H0 M B (upd H p o) σ (ρ.set i (some d')) := by
  obtain ⟨p', e', t, hm, nb⟩ := G.own i d h ho
  rw [hp] at e'
  have ep : p = p' := by injection e' with e'; injection e' with e'; injection e'
  subst ep
  have m := t.mut
  have k : Kept H (upd H p o) := Kept.put m
  have hi : i < ρ.length := (List.getElem?_eq_some_iff.mp h).1
  have same : ∀ b, b ≠ p → (upd H p o) b = H b := fun b hb => upd_ne hb
  refine ⟨by rw [List.length_set]; exact G.len, fun a ob h1 h2 nt => ?_, fun j x h1 h2 => ?_, fun j x h1 h2 => ?_, fun j x h1 h2 => ?_, fun j l x y q hne h1 h2 h3 h4 h5 => ?_, fun j x h1 => ?_, fun q hq => ?_, fun j x v h => ?_, tabs_upd G.tabs t.code, fun a ps h => ?_⟩
  · have : a ≠ p := by
      rintro rfl
      rcases hm with hm | hm
      · exact h2 hm
      · rw [hm] at h1; cases h1
    rw [same a this]
    exact G.frame a ob h1 h2 nt
  · have hj : j ≠ i := by
      rintro rfl
      rw [h2] at ho; exact absurd ho (by decide)
    rw [set_ne hj] at h1
    obtain ⟨v, e, r⟩ := G.val j x h1 h2
    exact ⟨v, e, r.mono k⟩
  · have hj : j ≠ i := by
      rintro rfl
      rw [h2] at ho; exact absurd ho (by decide)
    rw [set_ne hj] at h1
    exact G.bor j x h1 h2
  · by_cases hj : j = i
    · subst hj
      rw [List.getElem?_set_self hi] at h1
      have e : d' = x := by injection h1 with h1; injection h1
      exact ⟨p, hp, e ▸ t', hm, nb⟩
    · rw [set_ne hj] at h1
      obtain ⟨q, e, tq, hq⟩ := G.own j x h1 h2
      refine ⟨q, e, tq.mono k (same q ?_), hq⟩
      rintro rfl
      exact G.apart j i x d q hj h1 h h2 ho e hp
  · have back : ∀ {m : Nat} {z : D}, (ρ.set i (some d'))[m]? = some (some z) → ∃ z', ρ[m]? = some (some z') := fun {m z} e => by
      by_cases hm' : m = i
      · subst hm'; exact ⟨d, h⟩
      · rw [set_ne hm'] at e; exact ⟨z, e⟩
    obtain ⟨z1, e1⟩ := back h1
    obtain ⟨z2, e2⟩ := back h2
    exact G.apart j l z1 z2 q hne e1 e2 h3 h4 h5
  · by_cases hj : j = i
    · subst hj
      exact G.kinds j d h
    · rw [set_ne hj] at h1
      exact G.kinds j x h1
  · rw [same q fun z => nb (z ▸ hq)]
    exact G.bh q hq
  · rcases G.bsl j x v h with r | ⟨q, e2, tq, bq⟩
    · exact .inl (r.mono k)
    · exact .inr ⟨q, e2, tq.mono k (same q fun z => nb (z ▸ bq)), bq⟩
  · obtain ⟨ps', z⟩ := G.frT a ps h
    exact ⟨ps', by rw [same a fun e => t.code.2 ps' (by rw [← e]; exact z)]; exact z⟩

theorem val_not {ks : List Kd} {i : Nat} (h : ks[i]? = some .val) : isOwn ks[i]? = false := by rw [h]; rfl

/-- a value is stored in slot i -/
theorem Stt.setVal (G : Stt g T ks H0 M B H σ ρ) {i : Nat} {d : D} {v : V} (hk : ks[i]? = some .val) (r : Rep g H d v) (hi : i < σ.length) : Stt g T ks H0 M B H (σ.set i (some v)) (ρ.set i (some d)) := by
  have hi' : i < ρ.length := by rw [G.len]; exact hi
  have nown := val_not hk
  refine ⟨by rw [List.length_set, List.length_set]; exact G.len, G.frame, fun j x h1 h2 => ?_, fun j x h1 h2 => ?_, fun j x h1 h2 => ?_, fun j l x y q hne h1 h2 h3 h4 h5 => ?_, fun j x h1 => ?_, G.bh, G.bsl, G.tabs, G.frT⟩
  · by_cases hj : j = i
    · subst hj
      rw [List.getElem?_set_self hi'] at h1
      have e : d = x := by injection h1 with h1; injection h1
      exact ⟨v, List.getElem?_set_self hi, e ▸ r⟩
    · rw [set_ne hj] at h1 ⊢
      exact G.val j x h1 h2
  · have hj : j ≠ i := by rintro rfl; rw [hk] at h2; cases h2
    rw [set_ne hj] at h1 ⊢
    exact G.bor j x h1 h2
  · have hj : j ≠ i := by rintro rfl; rw [nown] at h2; cases h2
    rw [set_ne hj] at h1 ⊢
    exact G.own j x h1 h2
  · have hj : j ≠ i := by rintro rfl; rw [nown] at h3; cases h3
    have hl : l ≠ i := by rintro rfl; rw [nown] at h4; cases h4
    rw [set_ne hj] at h1 h5
    rw [set_ne hl] at h2 ⊢
    exact G.apart j l x y q hne h1 h2 h3 h4 h5
  · by_cases hj : j = i
    · subst hj; exact ⟨_, hk⟩
    · rw [set_ne hj] at h1; exact G.kinds j x h1

/-- a new list is stored in one's own slot i -/
theorem Stt.setOwn (G : Stt g T ks H0 M B H σ ρ) {i : Nat} {d : D} {p : Addr} (hk : ks[i]? = some .own) (t : Top g H p d) (hi : i < σ.length) (new : M p ∨ H0 p = none) (nb : ¬ B p)
    (ap : ∀ (j : Nat) (e : D), j ≠ i → ρ[j]? = some (some e) → isOwn ks[j]? = true → σ[j]? ≠ some (some (.ref p))) : Stt g T ks H0 M B H (σ.set i (some (.ref p))) (ρ.set i (some d)) := by
  have hi' : i < ρ.length := by rw [G.len]; exact hi
  have iown : isOwn ks[i]? = true := by rw [hk]; rfl
  refine ⟨by rw [List.length_set, List.length_set]; exact G.len, G.frame, fun j x h1 h2 => ?_, fun j x h1 h2 => ?_, fun j x h1 h2 => ?_, fun j l x y q hne h1 h2 h3 h4 h5 => ?_, fun j x h1 => ?_, G.bh, G.bsl, G.tabs, G.frT⟩
  · have hj : j ≠ i := by rintro rfl; rw [hk] at h2; cases h2
    rw [set_ne hj] at h1 ⊢
    exact G.val j x h1 h2
  · have hj : j ≠ i := by rintro rfl; rw [hk] at h2; cases h2
    rw [set_ne hj] at h1 ⊢
    exact G.bor j x h1 h2
  · by_cases hj : j = i
    · subst hj
      rw [List.getElem?_set_self hi'] at h1
      have e : d = x := by injection h1 with h1; injection h1
      exact ⟨p, List.getElem?_set_self hi, e ▸ t, new, nb⟩
    · rw [set_ne hj] at h1 ⊢
      exact G.own j x h1 h2
  · by_cases hj : j = i
    · subst hj
      have hl : l ≠ j := Ne.symm hne
      rw [List.getElem?_set_self hi] at h5
      have e : p = q := by injection h5 with h5; injection h5 with h5; injection h5
      subst e
      rw [set_ne hl] at h2 ⊢
      exact ap l y hl h2 h4
    · rw [set_ne hj] at h1 h5
      by_cases hl : l = i
      · subst hl
        rw [List.getElem?_set_self hi]
        intro e
        have e : p = q := by injection e with e; injection e with e; injection e
        subst e
        exact ap j x hj h1 h3 h5
      · rw [set_ne hl] at h2 ⊢
        exact G.apart j l x y q hne h1 h2 h3 h4 h5
  · by_cases hj : j = i
    · subst hj; exact ⟨_, hk⟩
    · rw [set_ne hj] at h1; exact G.kinds j x h1
/-- an address that the heap did not know when the slots were so -/
theorem Stt.ap_new (G : Stt g T ks H0 M B H σ ρ) {p : Addr} (hp : H p = none) : ∀ (j : Nat) (e : D), ρ[j]? = some (some e) → isOwn ks[j]? = true → σ[j]? ≠ some (some (.ref p)) := by
  intro j e h1 h2 h3
  obtain ⟨q, e3, t, _⟩ := G.own j e h1 h2
  rw [h3] at e3
  cases e3
  exact t.there hp
theorem Stt.nb_new (G : Stt g T ks H0 M B H σ ρ) {p : Addr} (hp : H p = none) : ¬ B p := fun b => G.bh p b hp
theorem Stt.new0 (G : Stt g T ks H0 M B H σ ρ) {p : Addr} (hp : H p = none) : M p ∨ H0 p = none := by
  by_cases hM : M p
  · exact .inl hM
  · cases q : H0 p with
    | none => exact .inr rfl
    | some o =>
      by_cases nt : ∃ ps, o = .tbl ps
      · obtain ⟨ps, rfl⟩ := nt
        obtain ⟨ps', z⟩ := G.frT p ps q
        rw [hp] at z; cases z
      · rw [G.frame p o q hM (fun ps z => nt ⟨ps, z⟩)] at hp; cases hp

/-- slots forgotten -/
theorem Stt.weak (G : Stt g T ks H0 M B H σ ρ) {ρ' : Rho} (hl : ρ'.length = ρ.length) (w : ∀ (i : Nat) (d : D), ρ'[i]? = some (some d) → ρ[i]? = some (some d)) : Stt g T ks H0 M B H σ ρ' :=
  ⟨hl.trans G.len, G.frame, fun i d h1 h2 => G.val i d (w i d h1) h2, fun i d h1 h2 => G.bor i d (w i d h1) h2, fun i d h1 h2 => G.own i d (w i d h1) h2,
    fun i j d e p hne h1 h2 h3 h4 h5 => G.apart i j d e p hne (w i d h1) (w j e h2) h3 h4 h5, fun i d h => G.kinds i d (w i d h), G.bh, G.bsl, G.tabs, G.frT⟩
theorem set_none {ρ : Rho} {i j : Nat} {d : D} (h : (ρ.set i none)[j]? = some (some d)) : ρ[j]? = some (some d) ∧ j ≠ i := by
  by_cases hj : j = i
  · subst hj
    by_cases hl : j < ρ.length
    · rw [List.getElem?_set_self hl] at h; cases h
    · rw [List.getElem?_eq_none (by simpa using hl)] at h; cases h
  · rw [set_ne hj] at h; exact ⟨h, hj⟩
theorem Stt.drop (G : Stt g T ks H0 M B H σ ρ) (i : Nat) : Stt g T ks H0 M B H σ (ρ.set i none) :=
  G.weak (by rw [List.length_set]) fun j d h => (set_none h).1
/-- σ may change where ρ tells nothing -/
theorem Stt.sigma (G : Stt g T ks H0 M B H σ ρ) {σ' : L2.St} (hl : σ'.length = σ.length) (w : ∀ (i : Nat) (d : D) (v : V), ρ[i]? = some (some d) → σ[i]? = some (some v) → σ'[i]? = some (some v)) : Stt g T ks H0 M B H σ' ρ := by
  have back : ∀ {i : Nat} {d : D} {v : V}, ρ[i]? = some (some d) → σ'[i]? = some (some v) → σ[i]? = some (some v) := fun {i d v} h1 h2 => by
    obtain ⟨u, e, _⟩ := G.read h1
    have := w i d u h1 e
    rw [h2] at this
    cases this
    exact e
  refine ⟨G.len.trans hl.symm, G.frame, fun i d h1 h2 => ?_, fun i d h1 h2 => ?_, fun i d h1 h2 => ?_, fun i j d e p hne h1 h2 h3 h4 h5 h6 => ?_, G.kinds, G.bh, G.bsl, G.tabs, G.frT⟩
  · obtain ⟨v, e, r⟩ := G.val i d h1 h2
    exact ⟨v, w i d v h1 e, r⟩
  · obtain ⟨v, e, r⟩ := G.bor i d h1 h2
    exact ⟨v, w i d v h1 e, r⟩
  · obtain ⟨p, e, r⟩ := G.own i d h1 h2
    exact ⟨p, w i d _ h1 e, r⟩
  · exact G.apart i j d e p hne h1 h2 h3 h4 (back h1 h5) (back h2 h6)

/-- the addresses of one's own slots -/
def OwnAt (ks : List Kd) (σ : L2.St) (ρ : Rho) (a : Addr) : Prop := ∃ (i : Nat) (d : D), ρ[i]? = some (some d) ∧ isOwn ks[i]? = true ∧ σ[i]? = some (some (.ref a))

/-- what is lent while the slots that ρ' hides are put aside -/
def Lent.put (B : Lent) (ks : List Kd) (σ : L2.St) (ρ ρ' : Rho) : Lent := ⟨fun a => B a ∨ (OwnAt ks σ ρ a ∧ ¬ OwnAt ks σ ρ' a), B.sl⟩
/-- a new start: here; the slots that ρ' hides are lent -/
theorem Stt.rebase (G : Stt g T ks H0 M B H σ ρ) {ρ' : Rho} (hl : ρ'.length = ρ.length) (w : ∀ (i : Nat) (d : D), ρ'[i]? = some (some d) → ρ[i]? = some (some d)) :
    Stt g T ks H (OwnAt ks σ ρ') (B.put ks σ ρ ρ') H σ ρ' := by
  refine ⟨hl.trans G.len, fun a o h _ _ => h, fun i d h1 h2 => G.val i d (w i d h1) h2, fun i d h1 h2 => G.bor i d (w i d h1) h2, fun i d h1 h2 => ?_, fun i j d e p hne h1 h2 h3 h4 h5 => G.apart i j d e p hne (w i d h1) (w j e h2) h3 h4 h5, fun i d h => G.kinds i d (w i d h), fun p hp => ?_, fun i d v h => ?_, G.tabs, fun a ps h => ⟨ps, h⟩⟩
  · obtain ⟨p, e, t, m, nb⟩ := G.own i d (w i d h1) h2
    refine ⟨p, e, t, .inl ⟨i, d, h1, h2, e⟩, ?_⟩
    rintro (z | ⟨_, z⟩)
    · exact nb z
    · exact z ⟨i, d, h1, h2, e⟩
  · rcases hp with z | ⟨⟨i, d, h1, h2, h3⟩, _⟩
    · exact G.bh p z
    · obtain ⟨q, e, t, _⟩ := G.own i d h1 h2
      rw [h3] at e; cases e
      exact t.there
  · rcases G.bsl i d v h with r | ⟨p, e2, t, b⟩
    · exact .inl r
    · exact .inr ⟨p, e2, t, .inl b⟩
theorem Stt.ownM (G : Stt g T ks H0 M B H σ ρ) : ∀ a, OwnAt ks σ ρ a → (M a ∨ H0 a = none) ∧ ¬ B a := fun a ⟨j, x, hj, hk, hs⟩ => by
  obtain ⟨q, e, _, m⟩ := G.own j x hj hk
  rw [hs] at e; cases e
  exact m
/-- behind: the old start again; what was put aside (one's own slots of ρ that ρ₁ hides) comes back -/
theorem Stt.unbase (G : Stt g T ks H0 M B H σ ρ) {ρ₁ ρ' ρ₂ : Rho} {σ' : L2.St} (w₁ : ∀ (i : Nat) (d : D), ρ₁[i]? = some (some d) → ρ[i]? = some (some d))
    (G' : Stt g T ks H (OwnAt ks σ ρ₁) (B.put ks σ ρ ρ₁) H' σ' ρ') (k : Kept H H') (hl : ρ₂.length = ρ'.length)
    (w : ∀ (i : Nat) (d : D), ρ₂[i]? = some (some d) → ρ'[i]? = some (some d) ∨ (ρ[i]? = some (some d) ∧ isOwn ks[i]? = true ∧ ρ₁[i]? = some none ∧ σ'[i]? = σ[i]?)) : Stt g T ks H0 M B H' σ' ρ₂ := by
  have aside : ∀ {i : Nat} {d : D} {p : Addr}, ρ[i]? = some (some d) → isOwn ks[i]? = true → ρ₁[i]? = some none → σ[i]? = some (some (.ref p)) → ¬ OwnAt ks σ ρ₁ p := by
    rintro i d p hi hk hn hs ⟨j, x, hj, hk2, hs2⟩
    have hne : i ≠ j := by rintro rfl; rw [hn] at hj; cases hj
    exact G.apart i j d x p hne hi (w₁ j x hj) hk hk2 hs hs2
  have ownM₁ : ∀ a, OwnAt ks σ ρ₁ a → (M a ∨ H0 a = none) ∧ ¬ B a := fun a ⟨j, x, hj, hk, hs⟩ => G.ownM a ⟨j, x, w₁ j x hj, hk, hs⟩
  have stays : ∀ {p : Addr} {d : D}, Top g H p d → ¬ OwnAt ks σ ρ₁ p → Top g H' p d := fun {p d} t n => t.stay k fun o q => G'.frame p o q n fun ps z => t.code.2 ps (by rw [q, z])
  refine ⟨hl.trans G'.len, fun a o h n nt => ?_, fun i d h1 h2 => ?_, fun i d h1 h2 => ?_, fun i d h1 h2 => ?_, fun i j d e p hne h1 h2 h3 h4 h5 h6 => ?_, fun i d h => ?_, fun p hp n => ?_, fun i d v h => ?_, G'.tabs, fun a ps h => let ⟨ps', z⟩ := G.frT a ps h; G'.frT a ps' z⟩
  · refine G'.frame a o (G.frame a o h n nt) (fun q => ?_) nt
    rcases (ownM₁ a q).1 with z | z
    · exact n z
    · rw [z] at h; cases h
  · rcases w i d h1 with z | ⟨_, zo, _⟩
    · exact G'.val i d z h2
    · rw [h2] at zo; cases zo
  · rcases w i d h1 with z | ⟨_, zo, _⟩
    · exact G'.bor i d z h2
    · rw [h2] at zo; cases zo
  · rcases w i d h1 with z | ⟨z, zo, zn, zs⟩
    · obtain ⟨p, e, t, m, nb⟩ := G'.own i d z h2
      refine ⟨p, e, t, ?_, fun b => nb (.inl b)⟩
      rcases m with m | m
      · exact (ownM₁ p m).1
      · exact G.new0 m
    · obtain ⟨p, e, t, m⟩ := G.own i d z h2
      exact ⟨p, zs.trans e, stays t (aside z h2 zn e), m⟩
  · have lent : ∀ {i : Nat} {d : D}, ρ[i]? = some (some d) → isOwn ks[i]? = true → ρ₁[i]? = some none → σ[i]? = some (some (.ref p)) → (B.put ks σ ρ ρ₁) p := fun {i d} y yo yn ys =>
      .inr ⟨⟨i, d, y, yo, ys⟩, aside y yo yn ys⟩
    rcases w i d h1 with z | ⟨z, zo, zn, zs⟩
    · rcases w j e h2 with y | ⟨y, yo, yn, ys⟩
      · exact G'.apart i j d e p hne z y h3 h4 h5 h6
      · rw [ys] at h6
        obtain ⟨q, e2, _, _, nb⟩ := G'.own i d z h3
        rw [h5] at e2; cases e2
        exact nb (lent y yo yn h6)
    · rw [zs] at h5
      rcases w j e h2 with y | ⟨y, yo, yn, ys⟩
      · obtain ⟨q, e2, _, _, nb⟩ := G'.own j e y h4
        rw [h6] at e2; cases e2
        exact nb (lent z zo zn h5)
      · rw [ys] at h6
        exact G.apart i j d e p hne z y zo yo h5 h6
  · rcases w i d h with z | ⟨z, _⟩
    · exact G'.kinds i d z
    · exact G.kinds i d z
  · exact G'.bh p (.inl hp) n
  · rcases G.bsl i d v h with r | ⟨p, e2, t, b⟩
    · exact .inl (r.mono k)
    · exact .inr ⟨p, e2, stays t fun q => (ownM₁ p q).2 b, b⟩
end
end PV

set_option maxHeartbeats 2000000
/-! PV2: a small language of slots and its evaluator. -/
namespace PV
open PySem L2

/-- built-in operations on data -/
inductive Op where
  | add | sub | mul | fdiv | mod | band | pow
  | lt | le | gt | ge | eq | ne | isin | notin | isN | notN
  | neg | len | int1 | str1 | abs1 | tup1 | lst1 | any1 | all1 | sum1 | max2 | min2 | max1 | min1 | repr1 | idx
  | rev1 | sort1 | isa (ts : List Nat) | dget | dget2 | dkeys | ditems | dvals | join | split | part | startsw | endsw | replace | slice (a b : Bool)
  deriving DecidableEq
/-- what a loop walks -/
inductive Sk where
  | each | eachD | rng1 | rng2 | rng3 | enum | zip2 | rev | items | vals
  deriving DecidableEq
/-- methods that change their object -/
inductive Mo where
  | append | insert | pop0 | pop1 | extend | reverse | setdefault
  deriving DecidableEq
inductive Tg where
  | nm (i : Nat)
  | tp (is : List Nat)
  deriving DecidableEq

inductive X where
  | non | bl (b : Bool) | int (i : Int) | str (s : Str)
  | var (i : Nat) | own (i : Nat) | bor (i : Nat) | mv (i : Nat)
  | glo (j : Nat)
  | tup (es : List X) | lst (es : List X)
  | op (o : Op) (as : List X)
  | chain (o o' : Op) (a b c : X)
  | and (es : List X) | or (es : List X) | not (a : X)
  | ite (c a b : X)
  | call (f : Nat) (as : List X)
  | callk (f : Nat) (pm : List Nat) (as : List X)
  | lc (e : X) (tg : Tg) (sk : Sk) (as : List X) (ifs : List X) (vs : List Nat)
  | dc (k e : X) (tg : Tg) (sk : Sk) (as : List X) (ifs : List X) (vs : List Nat)
  | dc2 (k e : X) (tg : Tg) (sk : Sk) (as : List X) (tg2 : Tg) (x2 : X) (vs us : List Nat)
  | dic (ks es : List X)
  | dis (ks : List Str) (es : List X)
  | mm (m : Mo) (i : Nat) (as : List X)
  | sortk (as : List X) (x : X)
  | lk (i : Nat) (hs : List Nat) (x : X)
  | get (i : Nat) (as : List X)

inductive S where
  | asg (tg : Tg) (e : X)
  | asgO (i : Nat) (e : X)
  | par (i j : Nat) (a b : X)
  | setI (i : Nat) (k e : X)
  | aug (i : Nat) (o : Op) (e : X)
  | augI (i : Nat) (k : X) (o : Op) (e : X)
  | exp (e : X)
  | ite (c : X) (a b : List S)
  | for_ (tg : Tg) (sk : Sk) (as : List X) (body : List S)
  | while_ (c : X) (body : List S)
  | ret (e : X) | retO (i : Nat) | retF (e : X) | retN | retZ (i : Nat) (e : X)
  | raise (c : Nat) (e : X)
  | try_ (body : List S) (hs : List (Nat × Option Nat × List S))
  | brk | cont | pass
  | delI (i : Nat) (k : X)

inductive R (α : Type) where
  | ok (a : α) (ρ : Rho)
  | exc (c : Nat) (d : D) (ρ : Rho)
  | bad
inductive SR where
  | nx (ρ : Rho) | brk (ρ : Rho) | cont (ρ : Rho)
  | ret (d : D) (ρ : Rho)
  | exc (c : Nat) (d : D) (ρ : Rho)
  | bad
/-- a call's end: the result, what the given things hold then -/
inductive CR where
  | ret (d : D) (ms : List D)
  | exc (c : Nat) (d : D) (ms : List D)
  | bad

def R.bind {α β : Type} (r : R α) (f : α → Rho → R β) : R β :=
  match r with
  | .ok a ρ => f a ρ
  | .exc c d ρ => .exc c d ρ
  | .bad => .bad
def R.then {α : Type} (r : R α) (f : α → Rho → SR) : SR :=
  match r with
  | .ok a ρ => f a ρ
  | .exc c d ρ => .exc c d ρ
  | .bad => .bad

def isTopD : D → Bool
  | .list _ => true
  | .dict _ => true
  | _ => false
/-- an operand: a value, or a slot that is looked at when the operation runs -/
abbrev O := Sum D Nat
def seeO (ρ : Rho) : O → Option D
  | .inl d => some d
  | .inr i => match ρ[i]? with
    | some (some d) => some d
    | _ => none
def see (ρ : Rho) : List O → Option (List D)
  | [] => some []
  | o :: os => match seeO ρ o, see ρ os with
    | some d, some ds => some (d :: ds)
    | _, _ => none

def setAll : List Nat → List D → Rho → Option Rho
  | [], [], ρ => some ρ
  | i :: is, d :: ds, ρ => setAll is ds (ρ.set i (some d))
  | _, _, _ => none
def setTg (tg : Tg) (d : D) (ρ : Rho) : Option Rho :=
  match tg with
  | .nm i => some (ρ.set i (some d))
  | .tp is => match d with
    | .tuple ds => setAll is ds ρ
    | .list ds => setAll is ds ρ
    | _ => none

/-! ### the operations -/
def keyEq (a b : D) : Bool := NestedKey.beq (nk a) (nk b)
def dlook (k : D) : List (D × D) → Option D
  | [] => none
  | p :: r => if keyEq p.1 k then some p.2 else dlook k r
def dput (k v : D) : List (D × D) → List (D × D)
  | [] => [(k, v)]
  | p :: r => if keyEq p.1 k then (p.1, v) :: r else p :: dput k v r
def dputs : List (D × D) → List (D × D) → List (D × D)
  | acc, [] => acc
  | acc, p :: r => dputs (dput p.1 p.2 acc) r
/-- a key that this dict can be asked for -/
def keyFits (k : D) : List (D × D) → Bool
  | [] => keyKd k != 0
  | p :: _ => keyKd k != 0 && keyKd p.1 == keyKd k

def flatOk (x : D) : Bool := x.plain && decide (x.depth ≤ 60)
def cmpOk (x y : D) : Bool := flatOk x && y.plain
def notNone : D → Bool
  | .none => false
  | _ => true
def ordOk (x y : D) : Bool := PySem.W.alike x y && flatOk x && y.plain && notNone x
def fitsLn (n : Nat) : Bool := decide (n ≤ sizeLine)
def mulOk (i j : Int) : Bool := (decide (-(2 ^ 64) < i) && decide (i < 2 ^ 64)) || (decide (-(2 ^ 64) < j) && decide (j < 2 ^ 64)) || decide (i.natAbs.log2 + j.natAbs.log2 < 1000000)
def divOk (i j : Int) : Bool := (decide (j ≠ 0) && decide (j.natAbs < 1073741824)) || (decide (0 < j) && decide (j.natAbs.log2 < 9000))
def isaT : D → Nat → Bool
  | .int _, 0 => true
  | .bool _, 0 => true
  | .bool _, 1 => true
  | .str _, 2 => true
  | .list _, 3 => true
  | .tuple _, 4 => true
  | .dict _, 5 => true
  | _, _ => false
def boolsOf : List D → Option (List Bool)
  | [] => some []
  | .bool b :: r => (boolsOf r).map (b :: ·)
  | _ => none
def intsOf : List D → Option (List Int)
  | [] => some []
  | .int i :: r => (intsOf r).map (i :: ·)
  | _ => none
def strsOf : List D → Option (List Str)
  | [] => some []
  | .str i :: r => (strsOf r).map (i :: ·)
  | _ => none
def leastI : List Int → Option Int
  | [] => none
  | i :: r => match leastI r with
    | none => some i
    | some j => some (if j < i then j else i)
def mostI : List Int → Option Int
  | [] => none
  | i :: r => match mostI r with
    | none => some i
    | some j => some (if i < j then j else i)
def oneSign (c : Nat) : Str := ⟨#[c]⟩
def seqOf : D → Option (List D)
  | .list ds => some ds
  | .tuple ds => some ds
  | _ => none
def isSeqD : D → Bool
  | .list _ => true
  | .tuple _ => true
  | _ => false
def alikeAlls (ds : List D) : Bool := ds.all fun d => ds.all fun e => PySem.W.alike d e
def sortableB (ds : List D) : Bool := (ds.all fun d => match d with | .tuple (_ :: _) => true | _ => false) || (ds.all fun d => match d with | .none => false | .tuple _ => false | _ => true)
def depthsOk (ds : List D) : Bool := ds.all fun d => decide (d.depth ≤ 60)
def sortOk (ds : List D) : Bool := alikeAlls ds && sortableB ds && depthsOk ds && fitsLn ds.length
def sortD (ds : List D) : List D := ds.mergeSort (PySem.W.dataLe false id)

def pAdd : List D → Option D
  | [.int a, .int b] => some (.int (a + b))
  | [.str a, .str b] => if fitsLn (a.length + b.length) then some (.str (a ++ b)) else none
  | [.list a, .list b] => if fitsLn (a.length + b.length) then some (.list (a ++ b)) else none
  | [.tuple a, .tuple b] => if fitsLn (a.length + b.length) then some (.tuple (a ++ b)) else none
  | _ => none
def pSub : List D → Option D
  | [.int a, .int b] => some (.int (a - b))
  | _ => none
def pMul : List D → Option D
  | [.int a, .int b] => if mulOk a b then some (.int (a * b)) else none
  | _ => none
def pFdiv : List D → Option D
  | [.int a, .int b] => if divOk a b then some (.int (a.fdiv b)) else none
  | _ => none
def pMod : List D → Option D
  | [.int a, .int b] => if b ≠ 0 then some (.int (a.fmod b)) else none
  | _ => none
def pBand : List D → Option D
  | [.int a, .int b] => some (.int (Builtin.bitAnd a b))
  | _ => none
def pPow : List D → Option D
  | [.int a, .int b] => if decide (0 ≤ b) && decide (b ≤ 1000000) && decide (a.natAbs < 2 ^ 64) then some (.int (a ^ b.toNat)) else none
  | _ => none
def pLt : List D → Option D
  | [x, y] => if ordOk x y then some (.bool (PySem.W.dataLt x y)) else none
  | _ => none
def pGt : List D → Option D
  | [x, y] => if ordOk x y then some (.bool (PySem.W.dataLt y x)) else none
  | _ => none
def pLe : List D → Option D
  | [x, y] => if ordOk x y then some (.bool (!PySem.W.dataLt y x)) else none
  | _ => none
def pGe : List D → Option D
  | [x, y] => if ordOk x y then some (.bool (!PySem.W.dataLt x y)) else none
  | _ => none
def pEq : List D → Option D
  | [x, y] => if cmpOk x y then some (.bool (PyData.eqv x y)) else none
  | _ => none
def pNe : List D → Option D
  | [x, y] => if cmpOk x y then some (.bool (!PyData.eqv x y)) else none
  | _ => none
def isNoneD : D → Bool
  | .none => true
  | _ => false
def pIsN : List D → Option D
  | [x] => some (.bool (isNoneD x))
  | _ => none
def pNotN : List D → Option D
  | [x] => some (.bool (!isNoneD x))
  | _ => none
def pIsin : List D → Option D
  | [x, .list ds] => if flatOk x && PyData.plainAll ds then some (.bool (ds.any fun z => PyData.eqv z x)) else none
  | [x, .tuple ds] => if flatOk x && PyData.plainAll ds then some (.bool (ds.any fun z => PyData.eqv z x)) else none
  | [.str a, .str b] => if a.length == 1 then some (.bool (b.cps.toList.contains (a.cps.getD 0 0))) else none
  | [k, .dict kvs] => if keyFits k kvs then some (.bool (dlook k kvs).isSome) else none
  | _ => none
def pNotin : List D → Option D
  | [x, .list ds] => if flatOk x && PyData.plainAll ds then some (.bool (!ds.any fun z => PyData.eqv z x)) else none
  | [x, .tuple ds] => if flatOk x && PyData.plainAll ds then some (.bool (!ds.any fun z => PyData.eqv z x)) else none
  | [.str a, .str b] => if a.length == 1 then some (.bool (!b.cps.toList.contains (a.cps.getD 0 0))) else none
  | [k, .dict kvs] => if keyFits k kvs then some (.bool (!(dlook k kvs).isSome)) else none
  | _ => none
def pNeg : List D → Option D
  | [.int a] => some (.int (-a))
  | _ => none
def pLen : List D → Option D
  | [.list ds] => some (.int ds.length)
  | [.tuple ds] => some (.int ds.length)
  | [.dict kvs] => some (.int kvs.length)
  | [.str s] => if fitsLn s.length then some (.int s.length) else none
  | _ => none
def pInt1 : List D → Option D
  | [.int a] => some (.int a)
  | [.bool b] => some (.int (if b then 1 else 0))
  | _ => none
def pStr1 : List D → Option D
  | [.int a] => if a.natAbs.log2 < 1920 then some (.str (toString a)) else none
  | _ => none
def pAbs1 : List D → Option D
  | [.int a] => some (.int (if a < 0 then -a else a))
  | _ => none
def pTup1 : List D → Option D
  | [.list ds] => some (.tuple ds)
  | [.tuple ds] => some (.tuple ds)
  | _ => none
def pLst1 : List D → Option D
  | [.list ds] => some (.list ds)
  | [.tuple ds] => some (.list ds)
  | [.dict kvs] => if fitsLn kvs.length then some (.list (kvs.map (·.1))) else none
  | _ => none
def pAny1 : List D → Option D
  | [.list ds] => (boolsOf ds).map fun bs => .bool (bs.any id)
  | _ => none
def pAll1 : List D → Option D
  | [.list ds] => (boolsOf ds).map fun bs => .bool (bs.all id)
  | _ => none
def pSum1 : List D → Option D
  | [.list ds] => (intsOf ds).map fun ns => .int ns.sum
  | _ => none
def pMax2 : List D → Option D
  | [.int a, .int b] => some (.int (if b > a then b else a))
  | _ => none
def pMin2 : List D → Option D
  | [.int a, .int b] => some (.int (if b < a then b else a))
  | _ => none
def pMax1 : List D → Option D
  | [.list ds] => (intsOf ds).bind fun ns => (mostI ns).map .int
  | _ => none
def pMin1 : List D → Option D
  | [.list ds] => (intsOf ds).bind fun ns => (leastI ns).map .int
  | _ => none
def pRepr1 : List D → Option D
  | [d] => if d.showable && d.plain && decide (d.shown.length ≤ sizeLine) && decide (d.depth ≤ 60) && isSeqD d then some (.str d.shown) else none
  | _ => none
def pIdx : List D → Option D
  | [.list ds, .int i] => atI ds i
  | [.tuple ds, .int i] => atI ds i
  | [.str s, .int i] => if fitsLn s.length then (atI s.cps.toList i).map fun c => .str (oneSign c) else none
  | [.dict kvs, k] => if keyFits k kvs then dlook k kvs else none
  | _ => none
def pRev1 : List D → Option D
  | [.list ds] => some (.list ds.reverse)
  | _ => none
def pSort1 : List D → Option D
  | [.list ds] => if sortOk ds then some (.list (sortD ds)) else none
  | _ => none
def pIsa (ts : List Nat) : List D → Option D
  | [d] => some (.bool (ts.any fun t => isaT d t))
  | _ => none
def pDget : List D → Option D
  | [.dict kvs, k] => if keyFits k kvs then some ((dlook k kvs).getD .none) else none
  | _ => none
def pDget2 : List D → Option D
  | [.dict kvs, k, x] => if keyFits k kvs && !isTopD x then some ((dlook k kvs).getD x) else none
  | _ => none
def pDitems : List D → Option D
  | [.dict kvs] => if fitsLn kvs.length && kvs.all (fun p => keyKd p.1 != 2) then some (.list (kvs.map fun p => .tuple [p.1, p.2])) else none
  | _ => none
def pJoin : List D → Option D
  | [.str s, .list ds] => (strsOf ds).bind fun ss => if decide ((ss.map Str.length).sum + s.length * ss.length ≤ 16777216) then some (.str (Txt.join s ss)) else none
  | _ => none
def pSliceTT : List D → Option D
  | [.list ds, .int i, .int j] => some (.list ((ds.drop (HT.sIx ds.length 0 (some i))).take (HT.sIx ds.length ds.length (some j) - HT.sIx ds.length 0 (some i))))
  | _ => none
def pSliceTF : List D → Option D
  | [.list ds, .int i] => some (.list (ds.drop (HT.sIx ds.length 0 (some i))))
  | _ => none
def pSliceFT : List D → Option D
  | [.list ds, .int j] => some (.list (ds.take (HT.sIx ds.length ds.length (some j))))
  | _ => none
def pSliceFF : List D → Option D
  | [.list ds] => some (.list ds)
  | _ => none
def prim (o : Op) (ds : List D) : Option D :=
  match o with
  | .add => pAdd ds
  | .sub => pSub ds
  | .mul => pMul ds
  | .fdiv => pFdiv ds
  | .mod => pMod ds
  | .band => pBand ds
  | .pow => pPow ds
  | .lt => pLt ds
  | .gt => pGt ds
  | .le => pLe ds
  | .ge => pGe ds
  | .eq => pEq ds
  | .ne => pNe ds
  | .isN => pIsN ds
  | .notN => pNotN ds
  | .isin => pIsin ds
  | .notin => pNotin ds
  | .neg => pNeg ds
  | .len => pLen ds
  | .int1 => pInt1 ds
  | .str1 => pStr1 ds
  | .abs1 => pAbs1 ds
  | .tup1 => pTup1 ds
  | .lst1 => pLst1 ds
  | .any1 => pAny1 ds
  | .all1 => pAll1 ds
  | .sum1 => pSum1 ds
  | .max2 => pMax2 ds
  | .min2 => pMin2 ds
  | .max1 => pMax1 ds
  | .min1 => pMin1 ds
  | .repr1 => pRepr1 ds
  | .idx => pIdx ds
  | .sort1 => pSort1 ds
  | .rev1 => pRev1 ds
  | .isa ts => pIsa ts ds
  | .dget => pDget ds
  | .dget2 => pDget2 ds
  | .ditems => pDitems ds
  | .join => pJoin ds
  | .slice true true => pSliceTT ds
  | .slice true false => pSliceTF ds
  | .slice false true => pSliceFT ds
  | .slice false false => pSliceFF ds
  | _ => none

/-- what a loop goes through -/
def srcOf : Sk → List D → Option (List D)
  | .each, [.list ds] => some ds
  | .each, [.tuple ds] => some ds
  | .eachD, [.dict kvs] => some (kvs.map (·.1))
  | .each, [.str s] => some (s.cps.toList.map fun c => .str (oneSign c))
  | .rng1, [.int j] => if decide (-(2 ^ 62) ≤ j) && decide (j < 2 ^ 62) then some ((List.range j.toNat).map fun (k : Nat) => .int (k : Int)) else none
  | .rng2, [.int i, .int j] => if decide (-(2 ^ 62) ≤ i) && decide (i < 2 ^ 62) && decide (-(2 ^ 62) ≤ j) && decide (j < 2 ^ 62) then some ((List.range (j - i).toNat).map fun (k : Nat) => .int (i + k)) else none
  | .enum, [.list ds] => some (ds.zipIdx.map fun p => .tuple [.int (p.2 : Nat), p.1])
  | .zip2, [a, b] => match seqOf a, seqOf b with
    | some x, some y => some ((x.zip y).map fun p => .tuple [p.1, p.2])
    | _, _ => none
  | .items, [.dict kvs] => some (kvs.map fun p => .tuple [p.1, p.2])
  | .vals, [.dict kvs] => some (kvs.map (·.2))
  | .rev, [.list ds] => some ds.reverse
  | _, _ => none

/-- a method that changes its object: the result, the object behind it -/
def meth : Mo → D → List D → Option (D × D)
  | .append, .list ds, [x] => if ds.length < sizeLine then some (.none, .list (ds ++ [x])) else none
  | .extend, .list ds, [.list es] => if fitsLn (ds.length + es.length) then some (.none, .list (ds ++ es)) else none
  | .insert, .list ds, [.int i, x] => if decide (0 ≤ i) && decide (i ≤ ds.length) && decide (ds.length < sizeLine) then some (.none, .list (ds.take i.toNat ++ x :: ds.drop i.toNat)) else none
  | .pop0, .list ds, [] => (ds[ds.length - 1]?).map fun x => (x, .list ds.dropLast)
  | .pop1, .list ds, [.int i] => if decide (0 ≤ i) && decide (i < 2 ^ 63) then (ds[i.toNat]?).map fun x => (x, .list (ds.eraseIdx i.toNat)) else none
  | .reverse, .list ds, [] => some (.none, .list ds.reverse)
  | _, _, _ => none
/-- o[k] = v -/
def putAt : D → D → D → Option D
  | .list ds, .int i, v => match ixN ds.length i with
    | some j => some (.list (ds.set j v))
    | none => none
  | .dict kvs, k, v => if keyFits k kvs && decide (kvs.length < sizeLine) then some (.dict (dput k v kvs)) else none
  | _, _, _ => none

/-! ### the evaluator -/
/-- a def's facts -/
structure Fi where
  name : Str
  /-- its statement in the text -/
  st : Stmt
  /-- its names, the parameters first -/
  N : List Str
  np : Nat
  ks : List Kd
  body : List S
  /-- its result is a new list or dict -/
  fresh : Bool
abbrev Orc := Nat → List D → CR

def wipeR (ρ : Rho) : List Nat → Rho
  | [] => ρ
  | i :: is => (wipeR ρ is).set i none
/-- the slots of is as they were in ρ -/
def backR (ρ : Rho) (ρ' : Rho) : List Nat → Rho
  | [] => ρ'
  | i :: is => (backR ρ ρ' is).set i ((ρ[i]?).getD none)

def compL (fe : Rho → R D) (fi : Rho → R Bool) (tg : Tg) (vs : List Nat) : List D → Rho → R (List D)
  | [], ρ => .ok [] ρ
  | d :: ds, ρ => match setTg tg d (wipeR ρ vs) with
    | none => .bad
    | some ρ1 => (fi ρ1).bind fun b ρ2 => if b then (fe ρ2).bind fun x ρ3 => (compL fe fi tg vs ds ρ3).bind fun xs ρ4 => .ok (x :: xs) ρ4 else compL fe fi tg vs ds ρ2
/-- two clauses: the second one's items by fs -/
def compL2 (fe : Rho → R D) (fs : Rho → R (List D)) (tg tg2 : Tg) (vs us : List Nat) : List D → Rho → R (List D)
  | [], ρ => .ok [] ρ
  | d :: ds, ρ => match setTg tg d (wipeR ρ vs) with
    | none => .bad
    | some ρ1 => (fs ρ1).bind fun items ρ2 => (compL fe (fun r => .ok true r) tg2 us items ρ2).bind fun xs ρ3 => (compL2 fe fs tg tg2 vs us ds ρ3).bind fun ys ρ4 => .ok (xs ++ ys) ρ4
def noExc {α : Type} : R α → R α
  | .ok a ρ => .ok a ρ
  | _ => .bad
def forL (f : Rho → SR) (tg : Tg) : List D → Rho → SR
  | [], ρ => .nx ρ
  | d :: ds, ρ => match setTg tg d ρ with
    | none => .bad
    | some ρ1 => match f ρ1 with
      | .nx ρ2 => forL f tg ds ρ2
      | .cont ρ2 => forL f tg ds ρ2
      | .brk ρ2 => .nx ρ2
      | .ret d ρ2 => .ret d ρ2
      | .exc c d ρ2 => .exc c d ρ2
      | .bad => .bad
def whileL (c : Rho → R Bool) (f : Rho → SR) : Nat → Rho → SR
  | 0, _ => .bad
  | n + 1, ρ => (c ρ).then fun b ρ1 => if b then (match f ρ1 with
      | .nx ρ2 => whileL c f n ρ2
      | .cont ρ2 => whileL c f n ρ2
      | .brk ρ2 => .nx ρ2
      | .ret d ρ2 => .ret d ρ2
      | .exc c d ρ2 => .exc c d ρ2
      | .bad => .bad) else .nx ρ1
def wfuel : Nat := 2 ^ 60
/-- a slot put aside while the loop runs -/
def lentOf : List X → Option Nat
  | [.own i] => some i
  | _ => none
def hide (ρ : Rho) : Option Nat → Rho
  | some i => ρ.set i none
  | none => ρ
def unhide (ρ : Rho) (l : Option Nat) (ρ' : Rho) : Rho :=
  match l with
  | some i => ρ'.set i ((ρ[i]?).getD none)
  | none => ρ'
def SR.map (f : Rho → Rho) : SR → SR
  | .nx ρ => .nx (f ρ)
  | .brk ρ => .brk (f ρ)
  | .cont ρ => .cont (f ρ)
  | .ret d ρ => .ret d (f ρ)
  | .exc c d ρ => .exc c d (f ρ)
  | .bad => .bad
def R.mapR {α : Type} (f : Rho → Rho) : R α → R α
  | .ok a ρ => .ok a (f ρ)
  | .exc c d ρ => .exc c d (f ρ)
  | .bad => .bad
/-- the slots given to be changed hold what the call left -/
def putBack : List (Option Nat) → List D → Rho → Option Rho
  | [], [], ρ => some ρ
  | none :: r, _ :: ds, ρ => putBack r ds ρ
  | some i :: r, d :: ds, ρ => putBack r ds (ρ.set i (some d))
  | _, _, _ => none
def asBool : R D → R Bool
  | .ok (.bool b) ρ => .ok b ρ
  | .exc c d ρ => .exc c d ρ
  | _ => .bad

/-- the text: its defs, its constants -/
structure Pg where
  T : List Fi
  G : List D
  /-- the names of the constants, of the classes of errors (each with its attribute) -/
  GN : List Str
  EN : List (Str × Str)
def giveOf : List Kd → List X → List (Option Nat)
  | k :: ks, a :: as => match k with
    | .inn => (match a with | .own i => some i | _ => none) :: giveOf ks as
    | _ => giveOf ks as
  | _, _ => []
def kindsOf (pg : Pg) (f : Nat) : List Kd := match pg.T[f]? with
  | some fi => fi.ks.take fi.np
  | none => []
def callR (r : CR) (give : List (Option Nat)) (ρ : Rho) : R D :=
  match r with
  | .ret d ms => match putBack give ms ρ with
    | some ρ' => .ok d ρ'
    | none => .bad
  | .exc c d ms => match putBack give ms ρ with
    | some ρ' => .exc c d ρ'
    | none => .bad
  | .bad => .bad
/-- in the order pm -/
def pick {α : Type} : List Nat → List α → Option (List α)
  | [], _ => some []
  | i :: is, xs => match xs[i]?, pick is xs with
    | some x, some r => some (x :: r)
    | _, _ => none
mutual
/-- neither a list nor a dict in it, no tuple too long -/
def kfit : D → Bool
  | .tuple ds => fitsLn ds.length && kfits ds
  | .list _ => false
  | .dict _ => false
  | _ => true
def kfits : List D → Bool
  | [] => true
  | d :: ds => kfit d && kfits ds
end
/-- the keys of a sort -/
def keysR (f : Rho → R D) : List D → Option (List D)
  | [] => some []
  | d :: ds => match f [some d] with
    | .ok k _ => (keysR f ds).map (k :: ·)
    | _ => none
def dictOf : List D → List (D × D) → Option (List (D × D))
  | [], acc => some acc
  | .tuple [k, v] :: r, acc => if keyFits k acc && decide (acc.length < sizeLine) then dictOf r (dput k v acc) else none
  | _, _ => none

mutual
/-- neither a list nor a dict in it -/
def flatD : D → Bool
  | .tuple ds => flatDs ds
  | .list _ => false
  | .dict _ => false
  | _ => true
def flatDs : List D → Bool
  | [] => true
  | d :: ds => flatD d && flatDs ds
end
mutual
def evE (pg : Pg) (C : Orc) : X → Rho → R D
  | .non, ρ => .ok .none ρ
  | .bl b, ρ => .ok (.bool b) ρ
  | .int i, ρ => .ok (.int i) ρ
  | .str s, ρ => .ok (.str s) ρ
  | .var i, ρ => match ρ[i]? with
    | some (some d) => .ok d ρ
    | _ => .bad
  | .own _, _ => .bad
  | .bor _, _ => .bad
  | .mv i, ρ => match ρ[i]? with
    | some (some d) => .ok d (ρ.set i none)
    | _ => .bad
  | .glo j, ρ => match pg.G[j]? with
    | some d => .ok d ρ
    | none => .bad
  | .tup es, ρ => (evEs pg C es ρ).bind fun ds ρ1 => if fitsLn ds.length then .ok (.tuple ds) ρ1 else .bad
  | .lst es, ρ => (evEs pg C es ρ).bind fun ds ρ1 => if fitsLn ds.length then .ok (.list ds) ρ1 else .bad
  | .op o as, ρ => (evOs pg C as ρ).bind fun os ρ1 => match see ρ1 os with
    | some ds => match prim o ds with
      | some d => .ok d ρ1
      | none => .bad
    | none => .bad
  | .chain o o' a b c, ρ => (evE pg C a ρ).bind fun x ρ1 => (evE pg C b ρ1).bind fun y ρ2 => match prim o [x, y] with
    | some (.bool true) => (evE pg C c ρ2).bind fun z ρ3 => match prim o' [y, z] with
      | some (.bool r) => .ok (.bool r) ρ3
      | _ => .bad
    | some (.bool false) => .ok (.bool false) ρ2
    | _ => .bad
  | .and es, ρ => evAnd pg C es ρ
  | .or es, ρ => evOr pg C es ρ
  | .not a, ρ => (asBool (evE pg C a ρ)).bind fun b ρ1 => .ok (.bool (!b)) ρ1
  | .ite c a b, ρ => (asBool (evE pg C c ρ)).bind fun t ρ1 => if t then evE pg C a ρ1 else evE pg C b ρ1
  | .call f as, ρ => (evOs pg C as ρ).bind fun os ρ1 => match see ρ1 os with
    | some ds => callR (C f ds) (giveOf (kindsOf pg f) as) ρ1
    | none => .bad
  | .callk f pm as, ρ => (evOs pg C as ρ).bind fun os ρ1 => match pick pm os, pick pm as with
    | some os2, some as2 => match see ρ1 os2 with
      | some ds => callR (C f ds) (giveOf (kindsOf pg f) as2) ρ1
      | none => .bad
    | _, _ => .bad
  | .lc e tg sk as ifs vs, ρ => (evOs pg C as ρ).bind fun os ρ1 => match see ρ1 os with
    | some ds => match srcOf sk ds with
      | some items => match compL (fun r => evE pg C e r) (fun r => evIf pg C ifs r) tg vs items (hide ρ1 (lentOf as)) with
        | .ok xs ρ2 => if fitsLn xs.length then .ok (.list xs) (unhide ρ1 (lentOf as) (backR ρ1 ρ2 vs)) else .bad
        | _ => .bad
      | none => .bad
    | none => .bad
  | .dc k e tg sk as ifs vs, ρ => (evOs pg C as ρ).bind fun os ρ1 => match see ρ1 os with
    | some ds => match srcOf sk ds with
      | some items => match compL (fun r => (evE pg C k r).bind fun x r1 => (evE pg C e r1).bind fun y r2 => .ok (.tuple [x, y]) r2) (fun r => evIf pg C ifs r) tg vs items (hide ρ1 (lentOf as)) with
        | .ok xs ρ2 => match dictOf xs [] with
          | some kvs => .ok (.dict kvs) (unhide ρ1 (lentOf as) (backR ρ1 ρ2 vs))
          | none => .bad
        | _ => .bad
      | none => .bad
    | none => .bad
  | .dc2 k e tg sk as tg2 x2 vs us, ρ => (evOs pg C as ρ).bind fun os ρ1 => match see ρ1 os with
    | some ds => match srcOf sk ds with
      | some items => match compL2 (fun r => (evE pg C k r).bind fun x r1 => (evE pg C e r1).bind fun y r2 => .ok (.tuple [x, y]) r2) (fun r => (evE pg C x2 r).bind fun d r1 => match seqOf d with | some l => .ok l r1 | none => .bad) tg tg2 vs us items (hide ρ1 (lentOf as)) with
        | .ok xs ρ2 => match dictOf xs [] with
          | some kvs => .ok (.dict kvs) (unhide ρ1 (lentOf as) (backR ρ1 ρ2 vs))
          | none => .bad
        | _ => .bad
      | none => .bad
    | none => .bad
  | .dic _ _, ρ => .ok (.dict []) ρ
  | .dis ks es, ρ => (evEs pg C es ρ).bind fun ds ρ1 => if decide (ks.length = ds.length) && decide ks.Nodup && decide (ks.length ≤ 15) && decide (ks ≠ []) then .ok (.dict ((ks.map PyData.str).zip ds)) ρ1 else .bad
  | .mm m i as, ρ => match ρ[i]? with
    | some (some (.list _)) => (evEs pg C as ρ).bind fun ds ρ1 => match ρ1[i]? with
      | some (some d) => match meth m d ds with
        | some (r, d') => .ok r (ρ1.set i (some d'))
        | none => .bad
      | _ => .bad
    | _ => .bad
  | .get i as, ρ => match ρ[i]? with
    | some (some (.dict _)) => (evEs pg C as ρ).bind fun ds ρ1 => match ρ1[i]? with
      | some (some d) => match (match ds with
        | [k] => prim .dget [d, k]
        | [k, x] => prim .dget2 [d, k, x]
        | _ => none) with
        | some r => .ok r ρ1
        | none => .bad
      | _ => .bad
    | _ => .bad
  | .sortk as x, ρ => (evOs pg C as ρ).bind fun os ρ1 => match see ρ1 os with
    | some [.list ds] => match keysR (fun r => evE pg C x r) ds with
      | some ks => if ds.all kfit && sortOk ks && fitsLn ds.length then .ok (.list (((ds.zip ks).mergeSort (PySem.W.dataLe false (·.2))).map (·.1))) ρ1 else .bad
      | none => .bad
    | _ => .bad
  | .lk i hs x, ρ => match ρ[i]? with
    | some (some _) => match evE pg C x (wipeR ρ hs) with
      | .ok d _ => if flatD d then .ok d ρ else .bad
      | _ => .bad
    | _ => .bad
def evEs (pg : Pg) (C : Orc) : List X → Rho → R (List D)
  | [], ρ => .ok [] ρ
  | e :: es, ρ => (evE pg C e ρ).bind fun d ρ1 => (evEs pg C es ρ1).bind fun ds ρ2 => .ok (d :: ds) ρ2
def evOs (pg : Pg) (C : Orc) : List X → Rho → R (List O)
  | [], ρ => .ok [] ρ
  | .own i :: es, ρ => match ρ[i]? with
    | some (some _) => (evOs pg C es ρ).bind fun os ρ1 => .ok (.inr i :: os) ρ1
    | _ => .bad
  | .bor i :: es, ρ => match ρ[i]? with
    | some (some _) => (evOs pg C es ρ).bind fun os ρ1 => .ok (.inr i :: os) ρ1
    | _ => .bad
  | e :: es, ρ => (evE pg C e ρ).bind fun d ρ1 => (evOs pg C es ρ1).bind fun os ρ2 => .ok (.inl d :: os) ρ2
def evAnd (pg : Pg) (C : Orc) : List X → Rho → R D
  | [], _ => .bad
  | e :: es, ρ => match es with
    | [] => evE pg C e ρ
    | _ :: _ => (asBool (evE pg C e ρ)).bind fun b ρ1 => if b then evAnd pg C es ρ1 else .ok (.bool false) ρ1
def evOr (pg : Pg) (C : Orc) : List X → Rho → R D
  | [], _ => .bad
  | e :: es, ρ => match es with
    | [] => evE pg C e ρ
    | _ :: _ => (asBool (evE pg C e ρ)).bind fun b ρ1 => if b then .ok (.bool true) ρ1 else evOr pg C es ρ1
def evIf (pg : Pg) (C : Orc) : List X → Rho → R Bool
  | [], ρ => .ok true ρ
  | e :: es, ρ => match es with
    | [] => asBool (evE pg C e ρ)
    | _ :: _ => .bad
end

def augOp (o : Op) (x y : D) : Option D := match o, x, y with
  | .add, .int a, .int b => some (.int (a + b))
  | .sub, .int a, .int b => some (.int (a - b))
  | _, _, _ => none
def setS (tg : Tg) (d : D) (ρ : Rho) : SR := match setTg tg d ρ with
  | some ρ' => .nx ρ'
  | none => .bad
mutual
def exS (pg : Pg) (C : Orc) : S → Rho → SR
  | .asg tg e, ρ => (evE pg C e ρ).then fun d ρ1 => setS tg d ρ1
  | .asgO i e, ρ => (evE pg C e ρ).then fun d ρ1 => if isTopD d then .nx (ρ1.set i (some d)) else .bad
  | .par i j a b, ρ => (evE pg C a ρ).then fun x ρ1 => (evE pg C b ρ1).then fun y ρ2 => .nx ((ρ2.set i (some x)).set j (some y))
  | .setI i k e, ρ => (evE pg C e ρ).then fun d ρ1 => match ρ1[i]? with
    | some (some _) => (evE pg C k ρ1).then fun x ρ2 => match ρ2[i]? with
      | some (some o) => match putAt o x d with
        | some o' => .nx (ρ2.set i (some o'))
        | none => .bad
      | _ => .bad
    | _ => .bad
  | .aug i o e, ρ => match ρ[i]? with
    | some (some x) => (evE pg C e ρ).then fun y ρ1 => match augOp o x y with
      | some z => .nx (ρ1.set i (some z))
      | none => .bad
    | _ => .bad
  | .augI i k o e, ρ => match ρ[i]? with
    | some (some _) => (evE pg C k ρ).then fun x ρ1 => match ρ1[i]? with
      | some (some l) => match prim .idx [l, x] with
        | some y => (evE pg C e ρ1).then fun z ρ2 => match augOp o y z with
          | some u => match ρ2[i]? with
            | some (some l2) => match putAt l2 x u with
              | some l3 => .nx (ρ2.set i (some l3))
              | none => .bad
            | _ => .bad
          | none => .bad
        | none => .bad
      | _ => .bad
    | _ => .bad
  | .exp e, ρ => (evE pg C e ρ).then fun _ ρ1 => .nx ρ1
  | .ite c a b, ρ => (asBool (evE pg C c ρ)).then fun t ρ1 => if t then exSs pg C a ρ1 else exSs pg C b ρ1
  | .for_ tg sk as body, ρ => (evOs pg C as ρ).then fun os ρ1 => match see ρ1 os with
    | some ds => match srcOf sk ds with
      | some items => (forL (fun r => exSs pg C body r) tg items (hide ρ1 (lentOf as))).map (unhide ρ1 (lentOf as))
      | none => .bad
    | none => .bad
  | .while_ c body, ρ => whileL (fun r => asBool (evE pg C c r)) (fun r => exSs pg C body r) wfuel ρ
  | .ret e, ρ => (evE pg C e ρ).then fun d ρ1 => .ret d ρ1
  | .retF e, ρ => (evE pg C e ρ).then fun d ρ1 => if isTopD d then .ret d ρ1 else .bad
  | .retO i, ρ => match ρ[i]? with
    | some (some d) => .ret d (ρ.set i none)
    | _ => .bad
  | .retN, ρ => .ret .none ρ
  | .retZ i e, ρ => match ρ[i]? with
    | some (some _) => match evE pg C e ρ with
      | .ok d ρ1 => .ret d (ρ1.set i none)
      | _ => .bad
    | _ => .bad
  | .raise c e, ρ => (evE pg C e ρ).then fun d ρ1 => .exc c d ρ1
  | .try_ body hs, ρ => match exSs pg C body ρ with
    | .exc c d ρ1 => exH pg C hs c d ρ1
    | r => r
  | .brk, ρ => .brk ρ
  | .cont, ρ => .cont ρ
  | .pass, ρ => .nx ρ
  | .delI _ _, _ => .bad
def exSs (pg : Pg) (C : Orc) : List S → Rho → SR
  | [], ρ => .nx ρ
  | s :: ss, ρ => match exS pg C s ρ with
    | .nx ρ1 => exSs pg C ss ρ1
    | r => r
def exH (pg : Pg) (C : Orc) : List (Nat × Option Nat × List S) → Nat → D → Rho → SR
  | [], c, d, ρ => .exc c d ρ
  | h :: hs, c, d, ρ => if h.1 = c then (match h.2.1 with
      | none => exSs pg C h.2.2 ρ
      | some i => (exSs pg C h.2.2 (ρ.set i (some d))).map fun r => r.set i none) else exH pg C hs c d ρ
end

/-- what the given things hold at the end -/
def givenOf : List Kd → Rho → Option (List D)
  | [], _ => some []
  | k :: ks, ρ => match k with
    | .inn => match ρ with
      | some d :: r => (givenOf ks r).map (d :: ·)
      | _ => none
    | _ => givenOf ks ρ.tail
def endOf (pg : Pg) (f : Nat) (r : SR) : CR :=
  match r with
  | .nx ρ => match givenOf (kindsOf pg f) ρ with
    | some ms => .ret .none ms
    | none => .bad
  | .ret d ρ => match givenOf (kindsOf pg f) ρ with
    | some ms => .ret d ms
    | none => .bad
  | .exc c d ρ => match givenOf (kindsOf pg f) ρ with
    | some ms => .exc c d ms
    | none => .bad
  | _ => .bad
def startR (fi : Fi) (ds : List D) : Rho := ds.map some ++ List.replicate (fi.N.length - ds.length) none
/-- a def called at depth n -/
def callF (pg : Pg) : Nat → Orc
  | 0, _, _ => .bad
  | n + 1, f, ds => match pg.T[f]? with
    | some fi => if ds.length = fi.np then endOf pg f (exSs pg (callF pg n) fi.body (startR fi ds)) else .bad
    | none => .bad
end PV

set_option maxHeartbeats 2000000
/-! PV3: what an expression's evaluation says of the abstract heap. -/
namespace PV
open PySem L2

abbrev wd (X : Cx) : Wd := ⟨X.prog, X.w, X.K⟩

/-- an exception of the class no. c with its argument d -/
def ExR (g : Wd) (EC : Nat → Option (Addr × Str)) (H : Hp) (c : Nat) (d : D) (cls : Value) (dd : Option Addr) : Prop :=
  ∃ C f a v, EC c = some (C, f) ∧ cls = .ref C ∧ dd = some a ∧ H a = some (.xd [(f, v)]) ∧ Rep g H d v

/-- what is fixed for a body -/
structure Bd where
  g : Wd
  pg : Pg
  C : Orc
  ks : List Kd
  EC : Nat → Option (Addr × Str)
  /-- tables of code objects -/
  T : List (Addr × Str)
  /-- how deep its calls go -/
  k : Nat
  /-- its result is a new list or dict -/
  fr : Bool
  /-- what is known of the defs that it calls -/
  F : Program → World → PySem.W.Frag → (Str → Option Value) → Heap → Prop

/-- neither a tuple nor frozen -/
def NF (H : Hp) (p : Addr) : Prop := (∀ xs, H p ≠ some (.tup xs)) ∧ ∀ o u, H p ≠ some (.frz o u)
theorem NF.of_none {H : Hp} {p : Addr} (h : H p = none) : NF H p := ⟨fun xs e => (nomatch h.symm.trans e), fun o u e => (nomatch h.symm.trans e)⟩
theorem NF.of_mut {H : Hp} {p : Addr} (h : Mut (H p)) : NF H p := ⟨fun xs e => (by rw [e] at h; exact h), fun o u e => (by rw [e] at h; exact h)⟩
theorem NF.pre {H H1 : Hp} {p : Addr} (k : Kept H H1) (h : NF H1 p) : NF H p := ⟨fun xs e => h.1 xs (k.t _ _ e), fun o u e => h.2 o u (k.f _ _ _ e)⟩
/-- a result that is new: nobody holds it -/
structure New (b : Bd) (H0 : Hp) (M : Addr → Prop) (B : Lent) (H : Hp) (σ : L2.St) (ρ : Rho) (p : Addr) : Prop where
  fresh : NF H p
  out : ¬ OwnAt b.ks σ ρ p
  nb : ¬ B p
  m : M p ∨ H0 p = none

section
variable (b : Bd) (W : WX)
/-- a value, or a new list or dict -/
def RR (nw : Bool) (H0 : Hp) (M : Addr → Prop) (B : Lent) (H : Hp) (σ : L2.St) (H' : Hp) (ρ' : Rho) (d : D) (v : V) : Prop :=
  if (isTopD d && nw) = true then ∃ p, v = .ref p ∧ New b H0 M B H σ ρ' p ∧ Top b.g H' p d else Rep b.g H' d v
/-- what is wanted behind an expression -/
def aftE (nw : Bool) (H0 : Hp) (M : Addr → Prop) (B : Lent) (σ : L2.St) (H : Hp) (Q : VK) (r : R D) : Prop :=
  match r with
  | .ok d ρ' => ∀ v H', Kept H H' → Stt b.g b.T b.ks H0 M B H' σ ρ' → RR b nw H0 M B H σ H' ρ' d v → Q v H'
  | .exc c d ρ' => ∀ cls dd H', Kept H H' → Stt b.g b.T b.ks H0 M B H' σ ρ' → ExR b.g b.EC H' c d cls dd → W cls dd σ H'
  | .bad => False
/-- an expression's value, new if it is a list or a dict -/
def tR (nw : Bool) (x : X) : TE := fun σ H Q => ∃ H0 M B ρ, Stt b.g b.T b.ks H0 M B H σ ρ ∧ aftE b W nw H0 M B σ H Q (evE b.pg b.C x ρ)
/-- an expression's value -/
abbrev tE (x : X) : TE := tR b W false x
/-- a test -/
def tT (x : X) : TT := fun σ H Q => ∃ H0 M B ρ, Stt b.g b.T b.ks H0 M B H σ ρ ∧
  match asBool (evE b.pg b.C x ρ) with
  | .ok d ρ' => ∀ H', Kept H H' → Stt b.g b.T b.ks H0 M B H' σ ρ' → Q d H'
  | .exc c d ρ' => ∀ cls dd H', Kept H H' → Stt b.g b.T b.ks H0 M B H' σ ρ' → ExR b.g b.EC H' c d cls dd → W cls dd σ H'
  | .bad => False
/-- an operand -/
def tO (x : X) : TE := match x with
  | .own i => tVar i
  | .bor i => tVar i
  | x => tE b W x
/-- values in a row -/
def tEs (xs : List X) : TA := fun σ H Q => ∃ H0 M B ρ, Stt b.g b.T b.ks H0 M B H σ ρ ∧
  match evEs b.pg b.C xs ρ with
  | .ok ds ρ' => ∀ vs H', Kept H H' → Stt b.g b.T b.ks H0 M B H' σ ρ' → Reps b.g H' ds vs → Q vs H'
  | .exc c d ρ' => ∀ cls dd H', Kept H H' → Stt b.g b.T b.ks H0 M B H' σ ρ' → ExR b.g b.EC H' c d cls dd → W cls dd σ H'
  | .bad => False
def RepO (g : Wd) (H : Hp) (σ : L2.St) : O → V → Prop
  | .inl d, v => Rep g H d v
  | .inr i, v => σ[i]? = some (some v)
def RepOs (g : Wd) (H : Hp) (σ : L2.St) : List O → List V → Prop
  | [], vs => vs = []
  | o :: os, vs => ∃ v r, vs = v :: r ∧ RepO g H σ o v ∧ RepOs g H σ os r
/-- operands in a row -/
def tOs (xs : List X) : TA := fun σ H Q => ∃ H0 M B ρ, Stt b.g b.T b.ks H0 M B H σ ρ ∧
  match evOs b.pg b.C xs ρ with
  | .ok os ρ' => ∀ vs H', Kept H H' → Stt b.g b.T b.ks H0 M B H' σ ρ' → RepOs b.g H' σ os vs → Q vs H'
  | .exc c d ρ' => ∀ cls dd H', Kept H H' → Stt b.g b.T b.ks H0 M B H' σ ρ' → ExR b.g b.EC H' c d cls dd → W cls dd σ H'
  | .bad => False
end

theorem RepO.mono {g : Wd} {H H' : Hp} {σ : L2.St} (k : Kept H H') {o : O} {v : V} (h : RepO g H σ o v) : RepO g H' σ o v := by
  cases o with
  | inl d => exact Rep.mono k d h
  | inr i => exact h
theorem RepOs.mono {g : Wd} {H H' : Hp} {σ : L2.St} (k : Kept H H') : ∀ {os : List O} {vs : List V}, RepOs g H σ os vs → RepOs g H' σ os vs
  | [], _, h => h
  | o :: os, _, h => by
    obtain ⟨v, r, e, h1, h2⟩ := h
    exact ⟨v, r, e, h1.mono k, RepOs.mono k h2⟩

/-! ### the judgements, weakened -/
section
variable {X : Cx}
theorem PE.imp {e : Expr} {t t' : TE} (h : PE X e t) (w : ∀ σ H Q, t' σ H Q → t σ H Q) : PE X e t' := ⟨fun pins s σ H Q I q => h.run pins s σ H Q I (w σ H Q q)⟩
theorem PT.imp {e : Expr} {t t' : TT} (h : PT X e t) (w : ∀ σ H Q, t' σ H Q → t σ H Q) : PT X e t' := ⟨fun pins s σ H Q I q => h.run pins s σ H Q I (w σ H Q q)⟩
theorem PA.imp {es : List Expr} {t t' : TA} (h : PA X es t) (w : ∀ σ H Q, t' σ H Q → t σ H Q) : PA X es t' := ⟨fun pos pins s σ H Q I q => h.run pos pins s σ H Q I (w σ H Q q)⟩
theorem PS.imp {st : Stmt} {t t' : TS} (h : PS X st t) (w : ∀ D σ H, t' D σ H → t D σ H) : PS X st t' := ⟨fun pins s σ H D I q => h.run pins s σ H D I (w D σ H q)⟩
theorem PSs.imp {st : List Stmt} {t t' : TS} (h : PSs X st t) (w : ∀ D σ H, t' D σ H → t D σ H) : PSs X st t' := ⟨fun pins s σ H D I q => h.run pins s σ H D I (w D σ H q)⟩
/-- a new thing may be frozen -/
theorem PE.frz {e : Expr} {t : TE} (h : PE X e t) : PE X e (fun σ H Q => t σ H fun v H' => ∃ p u, v = .ref p ∧ H' p = some u ∧ Mut (some u) ∧ ∀ o, Q v (upd H' p (.frz o u))) := by
  refine ⟨fun pins s σ H Q I q => ?_⟩
  refine thn (h.run pins s σ H _ I q) fun u s1 hh => ?_
  obtain ⟨v, H', I1, r, p, ob, e1, e2, m, k⟩ := hh
  obtain ⟨od, I2⟩ := I1.lock e2 m
  exact ⟨v, _, I2, r, k od⟩
end

section
variable {b : Bd} {H0 H H' : Hp} {M : Addr → Prop} {B : Lent} {σ : L2.St} {ρ : Rho} {W : WX}

/-- freezing -/
theorem Stt.freeze (G : Stt b.g b.T b.ks H0 M B H' σ ρ) {p : Addr} {u : HO} {o : Obj} (e : H' p = some u) (m : Mut (some u)) (out : ¬ OwnAt b.ks σ ρ p) (nb : ¬ B p) (hm : M p ∨ H0 p = none)
    (nc : (∀ q, H' p ≠ some (LamX.CodeO p q)) ∧ ∀ ps, H' p ≠ some (.tbl ps)) : Stt b.g b.T b.ks H0 M B (upd H' p (.frz o u)) σ ρ := by
  have k : Kept H' (upd H' p (.frz o u)) := Kept.put (by rw [e]; exact m)
  have oth : ∀ q, q ≠ p → (upd H' p (.frz o u)) q = H' q := fun q hq => upd_ne hq
  refine ⟨G.len, fun a ob h1 h2 nt => ?_, fun i d h1 h2 => ?_, G.bor, fun i d h1 h2 => ?_, G.apart, G.kinds, fun q hq => ?_, fun i d v h => ?_, tabs_upd G.tabs nc, fun a ps h => ?_⟩
  · have : a ≠ p := by
      rintro rfl
      rcases hm with hm | hm
      · exact h2 hm
      · rw [hm] at h1; cases h1
    rw [oth a this]
    exact G.frame a ob h1 h2 nt
  · obtain ⟨v, e1, r⟩ := G.val i d h1 h2
    exact ⟨v, e1, r.mono k⟩
  · obtain ⟨q, e1, t, hq⟩ := G.own i d h1 h2
    refine ⟨q, e1, t.mono k (oth q ?_), hq⟩
    rintro rfl
    exact out ⟨i, d, h1, h2, e1⟩
  · rw [oth q fun z => nb (z ▸ hq)]
    exact G.bh q hq
  · rcases G.bsl i d v h with r | ⟨q, e2, t, bq⟩
    · exact .inl (r.mono k)
    · exact .inr ⟨q, e2, t.mono k (oth q fun z => nb (z ▸ bq)), bq⟩
  · obtain ⟨ps', z⟩ := G.frT a ps h
    exact ⟨ps', by rw [oth a fun e => nc.2 ps' (by rw [← e]; exact z)]; exact z⟩
theorem Top.freeze {g : Wd} {p : Addr} {d : D} {H : Hp} (t : Top g H p d) : ∃ u, H p = some u ∧ Mut (some u) ∧ ∀ o, Rep g (upd H p (.frz o u)) d (.ref p) := by
  have m := t.mut
  cases d with
  | list ds =>
    obtain ⟨vs, e, r⟩ := t
    refine ⟨_, e, trivial, fun o => ?_⟩
    rw [Rep]
    exact ⟨p, vs, rfl, .inl ⟨o, upd_same⟩, Reps.mono (Kept.put m) ds r⟩
  | dict kvs =>
    obtain ⟨u, ks, e, s, r⟩ := t
    refine ⟨u, e, by rw [e] at m; exact m, fun o => ?_⟩
    rw [Rep]
    exact ⟨p, o, u, ks, rfl, upd_same, s, RepKs.mono (Kept.put m) kvs r⟩
  | _ => exact t.elim
theorem Kept.newP {p : Addr} {o : HO} (k : Kept H H') (h : NF H p) : Kept H (upd H' p o) := by
  refine ⟨fun a xs e => ?_, fun a ob u e => ?_, fun a e => k.d a (upd_none e)⟩
  · have : a ≠ p := by rintro rfl; exact h.1 _ e
    rw [upd_ne this]; exact k.t a xs e
  · have : a ≠ p := by rintro rfl; exact h.2 _ _ e
    rw [upd_ne this]; exact k.f a ob u e
theorem RR.old {H1 : Hp} {ρ' : Rho} {d : D} {v : V} (r : RR b false H0 M B H σ H1 ρ' d v) : Rep b.g H1 d v := by
  unfold RR at r
  rw [Bool.and_false, if_neg Bool.false_ne_true] at r
  exact r
theorem RR.of {H1 : Hp} {ρ' : Rho} {d : D} {v : V} (r : Rep b.g H1 d v) : RR b false H0 M B H σ H1 ρ' d v := by
  unfold RR
  rw [Bool.and_false, if_neg Bool.false_ne_true]
  exact r
theorem RR.low {nw : Bool} {H1 : Hp} {ρ' : Rho} {d : D} {v : V} (ht : isTopD d = false) (r : Rep b.g H1 d v) : RR b nw H0 M B H σ H1 ρ' d v := by
  unfold RR
  rw [ht, Bool.false_and, if_neg Bool.false_ne_true]
  exact r
/-- kept further ahead -/
theorem RR.pre {nw : Bool} {H1 H2 : Hp} {ρ' : Rho} {d : D} {v : V} (k : Kept H H1) (r : RR b nw H0 M B H1 σ H2 ρ' d v) : RR b nw H0 M B H σ H2 ρ' d v := by
  unfold RR at r ⊢
  split
  · rename_i h
    rw [if_pos h] at r
    obtain ⟨p, e, n, t⟩ := r
    exact ⟨p, e, ⟨n.fresh.pre k, n.out, n.nb, n.m⟩, t⟩
  · rename_i h
    rw [if_neg h] at r
    exact r
theorem aftE.pre {nw : Bool} {H1 : Hp} {Q : VK} {r : R D} (k : Kept H H1) (q : aftE b W nw H0 M B σ H Q r) : aftE b W nw H0 M B σ H1 Q r := by
  cases r with
  | bad => exact q
  | exc c d ρ' => exact fun cls dd H' k1 => q cls dd H' (k.trans k1)
  | ok d ρ' => exact fun v H' k1 G' r => q v H' (k.trans k1) G' (r.pre k)
/-- the expression's value is d, nothing else is done -/
theorem aftE.now {nw : Bool} {Q : VK} {r : R D} {d : D} {v : V} (q : aftE b W nw H0 M B σ H Q r) (e : r = .ok d ρ) (G : Stt b.g b.T b.ks H0 M B H σ ρ) (ht : isTopD d = false) (r : Rep b.g H d v) : Q v H := by
  rw [e] at q
  exact q v H (Kept.refl H) G (RR.low ht r)
/-! ### operands -/
theorem seeO_inr {ρ : Rho} {i : Nat} {d : D} (h : seeO ρ (.inr i) = some d) : ρ[i]? = some (some d) := by
  unfold seeO at h
  cases q : ρ[i]? with
  | none => simp [q] at h
  | some x =>
    cases x with
    | none => simp [q] at h
    | some y =>
      simp only [q] at h
      rw [h]
theorem seeO_rep (G : Stt b.g b.T b.ks H0 M B H σ ρ) {o : O} {d : D} {v : V} (h : seeO ρ o = some d) (r : RepO b.g H σ o v) : BRep b.g H d v := by
  cases o with
  | inl x =>
    have e : x = d := by simpa [seeO] using h
    exact .inl (e ▸ r)
  | inr i =>
    obtain ⟨u, e1, rr⟩ := G.read (seeO_inr h)
    have e2 : σ[i]? = some (some v) := r
    rw [e2] at e1
    cases e1
    exact rr
def BReps (g : Wd) (H : Hp) : List D → List V → Prop
  | [], vs => vs = []
  | d :: ds, vs => ∃ v r, vs = v :: r ∧ BRep g H d v ∧ BReps g H ds r
theorem see_reps (G : Stt b.g b.T b.ks H0 M B H σ ρ) : ∀ {os : List O} {ds : List D} {vs : List V}, see ρ os = some ds → RepOs b.g H σ os vs → BReps b.g H ds vs
  | [], ds, vs, h, r => by
    have e : ds = [] := by simpa [see] using h.symm
    subst e
    exact r
  | o :: os, ds, vs, h, r => by
    obtain ⟨v, t, e, h1, h2⟩ := r
    unfold see at h
    cases q1 : seeO ρ o with
    | none => rw [q1] at h; cases h
    | some d =>
      cases q2 : see ρ os with
      | none => rw [q1, q2] at h; cases h
      | some es =>
        rw [q1, q2] at h
        have e2 : ds = d :: es := by simpa using h.symm
        subst e2
        exact ⟨v, t, e, seeO_rep G q1 h1, see_reps G q2 h2⟩

/-- what comes behind operands in a row -/
def aft (b : Bd) (W : WX) (H0 : Hp) (M : Addr → Prop) (B : Lent) (σ : L2.St) (H : Hp) (Q : List V → Hp → Prop) (r : R (List O)) : Prop :=
  match r with
  | .ok os ρ' => ∀ vs H', Kept H H' → Stt b.g b.T b.ks H0 M B H' σ ρ' → RepOs b.g H' σ os vs → Q vs H'
  | .exc c d ρ' => ∀ cls dd H', Kept H H' → Stt b.g b.T b.ks H0 M B H' σ ρ' → ExR b.g b.EC H' c d cls dd → W cls dd σ H'
  | .bad => False

def isPlace : X → Bool
  | .own _ => true
  | .bor _ => true
  | _ => false
theorem tO_val {x : X} (h : isPlace x = false) : tO b W x = tE b W x := by
  cases x <;> first | rfl | cases h
theorem evOs_val {pg : Pg} {C : Orc} {x : X} {xs : List X} (h : isPlace x = false) (ρ : Rho) : evOs pg C (x :: xs) ρ = (evE pg C x ρ).bind fun d ρ1 => (evOs pg C xs ρ1).bind fun os ρ2 => .ok (.inl d :: os) ρ2 := by
  cases x <;> first | (cases h; done) | rfl
/-- the first operand, then the rest -/
theorem first_op {x : X} {xs : List X} {Q : List V → Hp → Prop} (G : Stt b.g b.T b.ks H0 M B H σ ρ) (h : aft b W H0 M B σ H Q (evOs b.pg b.C (x :: xs) ρ))
    {K : V → Hp → Prop} (hk : ∀ v H1 ρ1, Kept H H1 → Stt b.g b.T b.ks H0 M B H1 σ ρ1 → aft b W H0 M B σ H1 (fun vs H2 => Q (v :: vs) H2) (evOs b.pg b.C xs ρ1) → K v H1) : tO b W x σ H K := by
  cases hp : isPlace x with
  | true =>
    have core : ∀ i, (evOs b.pg b.C (x :: xs) ρ = match ρ[i]? with
        | some (some _) => (evOs b.pg b.C xs ρ).bind fun os ρ1 => .ok (.inr i :: os) ρ1
        | _ => .bad) → tVar i σ H K := fun i he => by
      rw [he] at h
      cases hi : ρ[i]? with
      | none => simp only [hi] at h; exact h.elim
      | some y =>
        cases y with
        | none => simp only [hi] at h; exact h.elim
        | some d0 =>
          simp only [hi] at h
          obtain ⟨v, ev, _⟩ := G.read hi
          refine ⟨v, ev, hk v H ρ (Kept.refl H) G ?_⟩
          cases q : evOs b.pg b.C xs ρ with
          | bad => rw [q] at h; exact h
          | exc c d ρ' => rw [q] at h; exact h
          | ok os ρ' =>
            rw [q] at h
            intro vs H' k G' r
            exact h (v :: vs) H' k G' ⟨v, vs, rfl, ev, r⟩
    cases x with
    | own i => exact core i rfl
    | bor i => exact core i rfl
    | _ => cases hp
  | false =>
    rw [tO_val hp]
    rw [evOs_val hp] at h
    refine ⟨H0, M, B, ρ, G, ?_⟩
    cases q : evE b.pg b.C x ρ with
    | bad => rw [q] at h; exact h
    | exc c d ρ' => rw [q] at h; exact h
    | ok d ρ' =>
      rw [q] at h
      intro v H1 k1 G1 r1
      refine hk v H1 ρ' k1 G1 ?_
      have h : aft b W H0 M B σ H Q ((evOs b.pg b.C xs ρ').bind fun os ρ2 => .ok (.inl d :: os) ρ2) := h
      cases q2 : evOs b.pg b.C xs ρ' with
      | bad => rw [q2] at h; exact h
      | exc c d ρ' => rw [q2] at h; exact fun cls dd H' k => h cls dd H' (k1.trans k)
      | ok os ρ2 =>
        rw [q2] at h
        intro vs H2 k2 G2 r2
        exact h (v :: vs) H2 (k1.trans k2) G2 ⟨v, vs, rfl, Rep.mono k2 d r1.old, r2⟩
theorem no_op {Q : List V → Hp → Prop} (G : Stt b.g b.T b.ks H0 M B H σ ρ) (h : aft b W H0 M B σ H Q (evOs b.pg b.C [] ρ)) : Q [] H := h [] H (Kept.refl H) G rfl
/-- not a starred one -/
def noStar : Expr → Bool
  | .Starred _ _ => false
  | _ => true
theorem star_cons {e : Expr} (h : noStar e = true) (es : List Expr) (env : PySem.Env) : starEach (e :: es) env = (false, eval e env) :: starEach es env := by
  cases e <;> first | rfl | cases h
/-- each expression is its operand -/
def OpsOk (X : Cx) (b : Bd) (W : WX) : List Expr → List PV.X → Prop
  | [], [] => True
  | e :: es, x :: xs => (noStar e = true ∧ PE X e (tO b W x)) ∧ OpsOk X b W es xs
  | _, _ => False
/-- operands as arguments -/
theorem pa_ops {X : Cx} : ∀ {es : List Expr} {xs : List PV.X}, OpsOk X b W es xs → PA X es (tOs b W xs)
  | [], [], _ => PV.PA.imp pa_nil fun σ H Q ⟨H0, M, B, ρ, G, h⟩ => no_op (W := W) G h
  | e :: es, x :: xs, h => by
    refine PV.PA.imp (pa_cons h.1.2 (pa_ops h.2) (star_cons h.1.1 es X.env)) fun σ H Q q => ?_
    obtain ⟨H0, M, B, ρ, G, q⟩ := q
    refine first_op G q fun v H1 ρ1 k G1 a => ?_
    exact ⟨H0, M, B, ρ1, G1, a⟩
  | [], _ :: _, h => h.elim
  | _ :: _, [], h => h.elim

/-! ### operations -/
theorem Top.isTop {g : Wd} {p : Addr} {d : D} {H : Hp} (t : Top g H p d) : isTopD d = true := by
  cases d <;> first | rfl | exact t.elim
/-- a value, or a new list or dict -/
def Res (g : Wd) (nw : Bool) (H H' : Hp) (d : D) (v : V) : Prop :=
  if (isTopD d && nw) = true then ∃ p, v = .ref p ∧ H p = none ∧ Top g H' p d else Rep g H' d v
/-- what is asked of values: the operation o gives something on their trees -/
def rL (g : Wd) (o : Op) (nw : Bool) : List V → Hp → VK → Prop := fun vs H Q => ∃ ds z, BReps g H ds vs ∧ prim o ds = some z ∧ ∀ v H', Same H H' → Res g nw H H' z v → Q v H'
theorem pe_E {X : Cx} {e : Expr} {nw : Bool} {x : PV.X} (h : PE X e (tR b W nw x)) : PE X e (tE b W x) := by
  refine ⟨fun pins s σ H Q I q => ?_⟩
  obtain ⟨H0, M, B, ρ, G, q⟩ := q
  refine thn (h.run pins s σ H (fun v H' => Q v H' ∨ ∃ p u, v = .ref p ∧ H' p = some u ∧ Mut (some u) ∧ ∀ o, Q v (upd H' p (.frz o u))) I ⟨H0, M, B, ρ, G, ?_⟩) fun u s1 hh => ?_
  · cases hr : evE b.pg b.C x ρ with
    | bad => rw [hr] at q; exact q
    | exc c d ρ' => rw [hr] at q; exact q
    | ok d ρ' =>
      rw [hr] at q
      intro v H' k G' r
      unfold RR at r
      by_cases hn : (isTopD d && nw) = true
      · rw [if_pos hn] at r
        obtain ⟨p, e1, n, t⟩ := r
        subst e1
        have tc := t.code
        obtain ⟨u, e1, m, r⟩ := t.freeze
        exact .inr ⟨p, u, rfl, e1, m, fun o => q _ _ (k.newP n.fresh) (G'.freeze e1 m n.out n.nb n.m tc) (RR.of (r o))⟩
      · rw [if_neg hn] at r
        exact .inl (q v H' k G' (RR.of r))
  · obtain ⟨v, H', I1, r, q1 | ⟨p, ob, e1, e2, m, k⟩⟩ := hh
    · exact ⟨v, H', I1, r, q1⟩
    · obtain ⟨od, I2⟩ := I1.lock e2 m
      exact ⟨v, _, I2, r, k od⟩
/-- the operation's node, by what it makes of its operands -/
theorem op_R {o : Op} {nw : Bool} {xs : List PV.X} {T : St → Hp → VK → Prop}
    (tm : ∀ σ H Q, tOs b W xs σ H (fun vs H1 => rL b.g o nw vs H1 Q) → T σ H Q) : ∀ σ H Q, tR b W nw (.op o xs) σ H Q → T σ H Q := by
  intro σ H Q q
  obtain ⟨H0, M, B, ρ, G, q⟩ := q
  refine tm σ H Q ⟨H0, M, B, ρ, G, ?_⟩
  rw [evE] at q
  cases h : evOs b.pg b.C xs ρ with
  | bad => rw [h] at q; exact q
  | exc c d ρ' => rw [h] at q; exact q
  | ok os ρ1 =>
    rw [h] at q
    intro vs H1 k1 G1 r1
    cases hs : see ρ1 os with
    | none => simp only [R.bind, hs] at q; exact q.elim
    | some ds =>
      cases hp : prim o ds with
      | none => simp only [R.bind, hs, hp] at q; exact q.elim
      | some d =>
        simp only [R.bind, hs, hp] at q
        refine ⟨ds, d, see_reps G1 hs r1, hp, fun v H' s rv => ?_⟩
        refine q v H' (k1.trans (Kept.of_same s)) (G1.same s) ?_
        unfold Res at rv
        unfold RR
        by_cases hn : (isTopD d && nw) = true
        · rw [if_pos hn] at rv ⊢
          obtain ⟨p, e1, np, t⟩ := rv
          exact ⟨p, e1, ⟨(NF.of_none np).pre k1, fun ⟨i, e, h1, h2, h3⟩ => G1.ap_new np i e h1 h2 h3, G1.nb_new np, G1.new0 np⟩, t⟩
        · rw [if_neg hn] at rv ⊢
          exact rv
end
end PV

set_option maxHeartbeats 4000000
/-! PV4: the operations, by values. -/
namespace PV
open PySem L2

section
variable {g : Wd} {H : Hp} {v : V}
theorem BRep.int {i : Int} (h : BRep g H (.int i) v) : v = .int i := by
  rcases h with h | ⟨p, _, t⟩
  · rw [Rep] at h; exact h
  · exact t.elim
theorem BRep.bl {i : Bool} (h : BRep g H (.bool i) v) : v = .bl i := by
  rcases h with h | ⟨p, _, t⟩
  · rw [Rep] at h; exact h
  · exact t.elim
theorem BRep.str {i : Str} (h : BRep g H (.str i) v) : v = .str i := by
  rcases h with h | ⟨p, _, t⟩
  · rw [Rep] at h; exact h
  · exact t.elim
theorem BRep.non (h : BRep g H .none v) : v = .non := by
  rcases h with h | ⟨p, _, t⟩
  · rw [Rep] at h; exact h
  · exact t.elim
/-- a list at a -/
def LsA (K : PySem.W.Frag) (H : Hp) (a : Addr) (vs : List V) : Prop := H a = some (.lst vs) ∨ FzL K H a vs
theorem LsA.sq {K : PySem.W.Frag} {a : Addr} {vs : List V} (h : LsA K H a vs) : SqL K H a vs := by
  rcases h with h | h
  · exact .inl (.inl h)
  · exact h.sq
theorem lst_at {X : Cx} {pins : List (Addr × Obj)} {σ : L2.St} {H : Hp} {s : Shared} {a : Addr} {vs : List V} (I : L2.Inv X pins σ H s) (h : LsA X.K H a vs) :
    ∃ (its : List Value) (n : Nat), Vals vs its ∧ vs.length ≤ sizeLine ∧ s.heap.get? a = some { cls := .type "list", data := .seq its.toArray n } := by
  rcases h with h | ⟨o, h⟩ | ⟨its, n, e, z, r⟩
  · obtain ⟨z, its, n, r, e⟩ := I.hok a _ h
    exact ⟨its, n, r, z, e⟩
  · obtain ⟨_, z, its, n, r, e⟩ := I.hok a _ h
    exact ⟨its, n, r, z, e⟩
  · exact ⟨its, n, r, by rw [r.length]; exact z, I.kIn a _ e⟩
theorem BRep.lst {ds : List D} (h : BRep g H (.list ds) v) : ∃ a vs, v = .ref a ∧ LsA g.K H a vs ∧ Reps g H ds vs := by
  rcases h with h | ⟨p, e, t⟩
  · rw [Rep] at h
    obtain ⟨a, vs, e, f, r⟩ := h
    exact ⟨a, vs, e, .inr f, r⟩
  · obtain ⟨vs, e2, r⟩ := t
    exact ⟨p, vs, e, .inl e2, r⟩
theorem BRep.tup {ds : List D} (h : BRep g H (.tuple ds) v) : ∃ a vs, v = .ref a ∧ SqT g.K H a vs ∧ Reps g H ds vs := by
  rcases h with h | ⟨p, e, t⟩
  · rw [Rep] at h
    exact h
  · exact t.elim
theorem BRep.dct {g : Wd} {H : Hp} {kvs : List (D × D)} {v : V} (h : BRep g H (.dict kvs) v) : ∃ a u ks, v = .ref a ∧ Rd H a u ∧ DSh g a u (kvs.map (·.1)) ks ∧ RepKs g H kvs ks := by
  rcases h with h | ⟨p, e, t⟩
  · rw [Rep] at h
    obtain ⟨a, o, u, ks, e, e2, s, r⟩ := h
    exact ⟨a, u, ks, e, .inr ⟨o, e2⟩, s, r⟩
  · obtain ⟨u, ks, e2, s, r⟩ := t
    exact ⟨p, u, ks, e, .inl e2, s, r⟩
theorem RepKs.length {g : Wd} {H : Hp} : ∀ {kvs : List (D × D)} {ks : List (V × V)}, RepKs g H kvs ks → ks.length = kvs.length
  | [], _, h => by rw [RepKs] at h; rw [h]; rfl
  | (a, b) :: t, _, h => by
    rw [RepKs] at h
    obtain ⟨x, y, u, e, _, _, h3⟩ := h
    rw [e, List.length_cons, List.length_cons, RepKs.length h3]
theorem RepKs.keys {g : Wd} {H : Hp} : ∀ {kvs : List (D × D)} {ks : List (V × V)}, RepKs g H kvs ks → Reps g H (kvs.map (·.1)) (ks.map (·.1))
  | [], _, h => by rw [RepKs] at h; rw [h]; exact .nil
  | (a, b) :: t, _, h => by
    rw [RepKs] at h
    obtain ⟨x, y, u, e, h1, _, h3⟩ := h
    rw [e]
    exact .cons h1 (RepKs.keys h3)
theorem RepKs.vals {g : Wd} {H : Hp} : ∀ {kvs : List (D × D)} {ks : List (V × V)}, RepKs g H kvs ks → Reps g H (kvs.map (·.2)) (ks.map (·.2))
  | [], _, h => by rw [RepKs] at h; rw [h]; exact .nil
  | (a, b) :: t, _, h => by
    rw [RepKs] at h
    obtain ⟨x, y, u, e, _, h2, h3⟩ := h
    rw [e]
    exact .cons h2 (RepKs.vals h3)
/-- a dict's entries, as they stand -/
abbrev Ent : List (V × V) → List DictEntry → Prop := Paired fun p e => RelV p.1 e.key ∧ RelV p.2 e.val
theorem ent_k {P : Program} {w : World} : ∀ {l : List (Key × V)} {vs : List (Key × Value)} {es : List DictEntry}, KV l vs → Pairs (mixKind P w) es vs → Ent (l.map fun p => (kV p.1, p.2)) es
  | _, _, _, .nil, .nil => .nil
  | _, _, _, .cons (l₁ := l) (a := x) (b := y) h t, .cons (e := e) hk hv r => by
    refine .cons ⟨?_, ?_⟩ (ent_k t r)
    · show RelV (kV x.1) e.key
      rw [h.1]
      exact keyIs_rel hk
    · show RelV x.2 e.val
      rw [hv]
      exact h.2
theorem ent_n {g : Wd} : ∀ {xs : List (NestedKey × Addr × V)} {ys : List (NestedKey × Addr × Value)}, NdP xs ys → Ent (xs.map fun x => (V.ref x.2.1, x.2.2)) (ys.map (entryOfKey (nestedKind g.P g.w)))
  | _, _, .nil => .nil
  | _, _, .cons (a := x) (b := y) h t => .cons ⟨by (show Value.ref y.2.1 = Value.ref x.2.1); rw [h.2.1], h.2.2⟩ (ent_n t)
theorem dct_raw {X : Cx} {pins : List (Addr × Obj)} {σ : L2.St} {H : Hp} {s : Shared} {a : Addr} {u : HO} {kvs : List (D × D)} {ks : List (V × V)} (I : L2.Inv X pins σ H s) (e : Rd H a u) (sh : DSh (wd X) a u (kvs.map (·.1)) ks) :
    ∃ o es ep, s.heap.get? a = some o ∧ o.ExactDict ∧ o.data = .dict es ep ∧ (a == sysModules) = false ∧ ks.length ≤ sizeLine ∧ Ent ks es.toList := by
  rcases sh with ⟨l, rfl, rfl⟩ | ⟨xs, hne, rfl, rfl, en, h2⟩
  · obtain ⟨z, hd, vs, rel, o, es, ep, ho, hx, hdt, q⟩ := dk_rd I.hok e
    exact ⟨o, es, ep, ho, hx, hdt, hd, by rw [List.length_map]; exact z, ent_k rel q.2.1⟩
  · have ok := e.ok I.hok
    obtain ⟨⟨hd, hz, nd, ys, p, o, es, ep, ho, hx, hdat, hes⟩, _, _⟩ := ok
    exact ⟨o, es, ep, ho, hx, hdat, hd, by rw [List.length_map]; exact hz, by rw [hes]; exact ent_n p⟩
mutual
theorem Rep.dp : ∀ (d : D) {v : V}, d.plain = true → Rep g H d v → Dp g.K H v d
  | .none, v, _, h => by rw [Rep] at h; subst h; exact .non
  | .bool b, v, _, h => by rw [Rep] at h; subst h; exact .bl b
  | .int i, v, _, h => by rw [Rep] at h; subst h; exact .int i
  | .str s, v, _, h => by rw [Rep] at h; subst h; exact .str s
  | .tuple ds, v, hp, h => by
    rw [Rep] at h
    obtain ⟨a, vs, rfl, f, r⟩ := h
    exact .tup f (Reps.dp ds (by simpa [PyData.plain] using hp) r)
  | .list ds, v, hp, h => by
    rw [Rep] at h
    obtain ⟨a, vs, rfl, f, r⟩ := h
    exact .lst f.sq (Reps.dp ds (by simpa [PyData.plain] using hp) r)
  | .dict _, v, hp, h => by simp [PyData.plain] at hp
theorem Reps.dp : ∀ (ds : List D) {vs : List V}, PyData.plainAll ds = true → Reps g H ds vs → DpAll g.K H vs ds
  | [], _, _, h => by rw [Reps] at h; subst h; exact .nil
  | d :: ds, _, hp, h => by
    rw [Reps] at h
    obtain ⟨v, r, rfl, h1, h2⟩ := h
    simp only [PyData.plainAll, Bool.and_eq_true] at hp
    exact .cons (Rep.dp d hp.1 h1) (Reps.dp ds hp.2 h2)
end
theorem BRep.dp {d : D} (hp : d.plain = true) (h : BRep g H d v) : Dp g.K H v d := by
  rcases h with h | ⟨p, e, t⟩
  · exact Rep.dp d hp h
  · subst e
    cases d with
    | list ds =>
      obtain ⟨vs, e2, r⟩ := t
      exact .lst (.inl (.inl e2)) (Reps.dp ds (by simpa [PyData.plain] using hp) r)
    | dict _ => simp [PyData.plain] at hp
    | _ => exact t.elim
theorem BReps.one {ds : List D} {x : V} (h : BReps g H ds [x]) : ∃ d, ds = [d] ∧ BRep g H d x := by
  cases ds with
  | nil => exact nomatch (show [x] = [] from h)
  | cons d r =>
    obtain ⟨v, t, e, h1, h2⟩ := h
    cases r with
    | nil =>
      have e2 : t = [] := h2
      subst e2
      cases e
      exact ⟨d, rfl, h1⟩
    | cons d2 r =>
      obtain ⟨v2, t2, e2, _⟩ := h2
      subst e2
      cases e
theorem BReps.cons {ds : List D} {x : V} {xs : List V} (h : BReps g H ds (x :: xs)) : ∃ d r, ds = d :: r ∧ BRep g H d x ∧ BReps g H r xs := by
  cases ds with
  | nil => exact nomatch (show x :: xs = [] from h)
  | cons d r =>
    obtain ⟨v, t, e, h1, h2⟩ := h
    cases e
    exact ⟨d, r, rfl, h1, h2⟩
theorem BReps.two {ds : List D} {x y : V} (h : BReps g H ds [x, y]) : ∃ d e, ds = [d, e] ∧ BRep g H d x ∧ BRep g H e y := by
  obtain ⟨d, r, rfl, h1, h2⟩ := h.cons
  obtain ⟨e, rfl, h3⟩ := h2.one
  exact ⟨d, e, rfl, h1, h3⟩
theorem BReps.three {ds : List D} {x y z : V} (h : BReps g H ds [x, y, z]) : ∃ d e f, ds = [d, e, f] ∧ BRep g H d x ∧ BRep g H e y ∧ BRep g H f z := by
  obtain ⟨d, r, rfl, h1, h2⟩ := h.cons
  obtain ⟨e, f, rfl, h3, h4⟩ := h2.two
  exact ⟨d, e, f, rfl, h1, h3, h4⟩
theorem BReps.zero {ds : List D} (h : BReps g H ds []) : ds = [] := by
  cases ds with
  | nil => rfl
  | cons d r =>
    obtain ⟨v, t, e, _⟩ := h
    cases e
theorem Res.val {nw : Bool} {H' : Hp} {d : D} (ht : isTopD d = false) (h : Rep g H' d v) : Res g nw H H' d v := by
  unfold Res
  rw [ht, Bool.false_and, if_neg (by decide)]
  exact h
theorem Res.old {H' : Hp} {d : D} (h : Rep g H' d v) : Res g false H H' d v := by
  unfold Res
  rw [Bool.and_false, if_neg (by decide)]
  exact h
theorem Res.new {nw : Bool} {H' : Hp} {d : D} {p : Addr} (hn : nw = true) (hp : H p = none) (t : Top g H' p d) : Res g nw H H' d (.ref p) := by
  unfold Res
  rw [hn, t.isTop, if_pos (show (true && true) = true from rfl)]
  exact ⟨p, rfl, hp, t⟩
theorem Res.int {nw : Bool} {H' : Hp} {i : Int} : Res g nw H H' (.int i) (.int i) := .val rfl (by rw [Rep])
theorem Res.bl {nw : Bool} {H' : Hp} {i : Bool} : Res g nw H H' (.bool i) (.bl i) := .val rfl (by rw [Rep])
theorem Res.str {nw : Bool} {H' : Hp} {i : Str} : Res g nw H H' (.str i) (.str i) := .val rfl (by rw [Rep])
theorem Res.non {nw : Bool} {H' : Hp} : Res g nw H H' .none .non := .val rfl (by rw [Rep])
theorem Res.lst {nw : Bool} {p : Addr} {ds : List D} {vs : List V} (hn : nw = true) (hp : H p = none) (r : Reps g H ds vs) : Res g nw H (upd H p (.lst vs)) (.list ds) (.ref p) :=
  .new hn hp ⟨vs, upd_same, Reps.mono (Kept.new hp) ds r⟩
theorem Res.tup {nw : Bool} {p : Addr} {ds : List D} {vs : List V} (hp : H p = none) (r : Reps g H ds vs) : Res g nw H (upd H p (.tup vs)) (.tuple ds) (.ref p) :=
  .val rfl (by rw [Rep]; exact ⟨p, vs, rfl, .inl (.inl upd_same), Reps.mono (Kept.new hp) ds r⟩)
end

/-- no such case -/
theorem noCase {α : Type} {z : α} {P : Prop} (h : (none : Option α) = some z) : P := nomatch h
theorem noD (z : D) {P : Prop} (h : (none : Option D) = some z) : P := nomatch h

section
variable {X : Cx}
abbrev OpD (X : Cx) (o : Op) (nw : Bool) (f : Value → Value → Sem Value) : Prop := OpR X f (fun x y => rL (wd X) o nw [x, y])
theorem fitsLn_le {n : Nat} (h : fitsLn n = true) : n ≤ sizeLine := of_decide_eq_true h
theorem if_some {c : Bool} {x z : D} (h : (if c = true then some x else none) = some z) : c = true ∧ x = z := by
  cases c with
  | true => exact ⟨rfl, Option.some.inj h⟩
  | false => cases h
theorem if_someP {c : Prop} [Decidable c] {x z : D} (h : (if c then some x else none) = some z) : c ∧ x = z := by
  by_cases hc : c
  · rw [if_pos hc] at h; exact ⟨hc, Option.some.inj h⟩
  · rw [if_neg hc] at h; cases h
theorem same_refl (H : Hp) : Same H H := fun _ _ h => h

theorem opd_add : OpD X .add true (binaryOp .Add) := by
  intro pins s σ H x y v u Q I rx ry h
  obtain ⟨ds, z, hb, hp, k⟩ := h
  obtain ⟨d, e, rfl, h1, h2⟩ := hb.two
  cases d <;> cases e <;> try (exact noCase (show (none : Option D) = some z from hp))
  case int.int a c =>
    have hz : PyData.int (a + c) = z := Option.some.inj hp
    subst hz
    cases h1.int; cases h2.int
    exact op_add pins s σ H _ _ v u Q I rx ry ⟨a, c, rfl, rfl, k _ _ (same_refl H) .int⟩
  case str.str a c =>
    obtain ⟨hf, hz⟩ := if_some (show (if fitsLn (a.length + c.length) = true then some (PyData.str (a ++ c)) else none) = some z from hp)
    subst hz
    cases h1.str; cases h2.str
    exact op_add_str pins s σ H _ _ v u Q I rx ry ⟨a, c, rfl, rfl, fitsLn_le hf, k _ _ (same_refl H) .str⟩
  case list.list a c =>
    obtain ⟨hf, hz⟩ := if_some (show (if fitsLn (a.length + c.length) = true then some (PyData.list (a ++ c)) else none) = some z from hp)
    subst hz
    obtain ⟨l, xs, rfl, s1, r1⟩ := h1.lst
    obtain ⟨m, ys, rfl, s2, r2⟩ := h2.lst
    have hlen := fitsLn_le hf
    rw [← r1.length, ← r2.length] at hlen
    cases rx
    cases ry
    obtain ⟨its, n, rv, _, e1⟩ := lst_at I s1
    obtain ⟨its2, n2, rv2, _, e2⟩ := lst_at I s2
    have l1 := rv.length
    have l2 := rv2.length
    refine PySem.P.add_list e1 e2 ?_ (by rw [List.size_toArray, List.size_toArray]; omega)
    have ea : its.toArray ++ its2.toArray = (its ++ its2).toArray := by simp
    rw [ea]
    exact ⟨.ref _, _, I.lnew (t' := s.toks) (rv.append rv2) (by rw [List.length_append]; omega), rfl, k _ _ (same_new I.fresh) (.lst rfl I.fresh (r1.append r2))⟩
  case tuple.tuple a c =>
    obtain ⟨hf, hz⟩ := if_some (show (if fitsLn (a.length + c.length) = true then some (PyData.tuple (a ++ c)) else none) = some z from hp)
    subst hz
    obtain ⟨l, xs, rfl, s1, r1⟩ := h1.tup
    obtain ⟨m, ys, rfl, s2, r2⟩ := h2.tup
    have hlen := fitsLn_le hf
    rw [← r1.length, ← r2.length] at hlen
    refine op_catA pins s σ H _ _ v u Q I rx ry ⟨l, m, xs, ys, rfl, rfl, s1, s2, hlen, fun e => ?_, fun _ e => ?_, fun _ _ p np => ?_⟩
    · subst e
      have ea : a = [] := by
        have := r1.length
        cases a with
        | nil => rfl
        | cons _ _ => cases this
      subst ea
      exact k _ _ (same_refl H) (.val rfl (by rw [Rep]; exact ⟨m, ys, rfl, s2, r2⟩))
    · subst e
      have ec : c = [] := by
        have := r2.length
        cases c with
        | nil => rfl
        | cons _ _ => cases this
      subst ec
      rw [List.append_nil] at k
      exact k _ _ (same_refl H) (.val rfl (by rw [Rep]; exact ⟨l, xs, rfl, s1, r1⟩))
    · exact k _ _ (same_new np) (.tup np (r1.append r2))
theorem opd_sub : OpD X .sub true (binaryOp .Sub) := by
  intro pins s σ H x y v u Q I rx ry h
  obtain ⟨ds, z, hb, hp, k⟩ := h
  obtain ⟨d, e, rfl, h1, h2⟩ := hb.two
  cases d <;> cases e <;> try (exact noCase (show (none : Option D) = some z from hp))
  case int.int a c =>
    have hz : PyData.int (a - c) = z := Option.some.inj hp
    subst hz
    cases h1.int; cases h2.int
    exact op_sub pins s σ H _ _ v u Q I rx ry ⟨a, c, rfl, rfl, k _ _ (same_refl H) .int⟩
theorem opd_mul : OpD X .mul true (binaryOp .Mult) := by
  intro pins s σ H x y v u Q I rx ry h
  obtain ⟨ds, z, hb, hp, k⟩ := h
  obtain ⟨d, e, rfl, h1, h2⟩ := hb.two
  cases d <;> cases e <;> try (exact noCase (show (none : Option D) = some z from hp))
  case int.int a c =>
    obtain ⟨hf, hz⟩ := if_some (show (if mulOk a c = true then some (PyData.int (a * c)) else none) = some z from hp)
    subst hz
    cases h1.int; cases h2.int
    unfold mulOk at hf
    simp only [Bool.or_eq_true, Bool.and_eq_true, decide_eq_true_eq] at hf
    rcases hf with (hf | hf) | hf
    · exact op_mul pins s σ H _ _ v u Q I rx ry ⟨a, c, rfl, rfl, .inl hf, k _ _ (same_refl H) .int⟩
    · exact op_mul pins s σ H _ _ v u Q I rx ry ⟨a, c, rfl, rfl, .inr hf, k _ _ (same_refl H) .int⟩
    · exact op_mulW pins s σ H _ _ v u Q I rx ry ⟨a, c, rfl, rfl, hf, k _ _ (same_refl H) .int⟩
theorem opd_fdiv : OpD X .fdiv true (binaryOp .FloorDiv) := by
  intro pins s σ H x y v u Q I rx ry h
  obtain ⟨ds, z, hb, hp, k⟩ := h
  obtain ⟨d, e, rfl, h1, h2⟩ := hb.two
  cases d <;> cases e <;> try (exact noCase (show (none : Option D) = some z from hp))
  case int.int a c =>
    obtain ⟨hf, hz⟩ := if_some (show (if divOk a c = true then some (PyData.int (a.fdiv c)) else none) = some z from hp)
    subst hz
    cases h1.int; cases h2.int
    unfold divOk at hf
    simp only [Bool.or_eq_true, Bool.and_eq_true, decide_eq_true_eq] at hf
    rcases hf with hf | hf
    · exact op_fdivN pins s σ H _ _ v u Q I rx ry ⟨a, c, rfl, rfl, hf, k _ _ (same_refl H) .int⟩
    · refine op_fdivW pins s σ H _ _ v u Q I rx ry ⟨a, c, rfl, rfl, hf, ?_⟩
      have e : a / c = a.fdiv c := (Int.fdiv_eq_ediv_of_nonneg a (Int.le_of_lt hf.1)).symm
      show Q (.int (a / c)) H
      rw [e]
      exact k _ _ (same_refl H) .int
theorem opd_mod : OpD X .mod true (binaryOp .Mod) := by
  intro pins s σ H x y v u Q I rx ry h
  obtain ⟨ds, z, hb, hp, k⟩ := h
  obtain ⟨d, e, rfl, h1, h2⟩ := hb.two
  cases d <;> cases e <;> try (exact noCase (show (none : Option D) = some z from hp))
  case int.int a c =>
    obtain ⟨hf, hz⟩ := if_someP (show (if c ≠ 0 then some (PyData.int (a.fmod c)) else none) = some z from hp)
    subst hz
    cases h1.int; cases h2.int
    exact op_modN pins s σ H _ _ v u Q I rx ry ⟨a, c, rfl, rfl, hf, k _ _ (same_refl H) .int⟩
theorem opd_band : OpD X .band true (binaryOp .BitAnd) := by
  intro pins s σ H x y v u Q I rx ry h
  obtain ⟨ds, z, hb, hp, k⟩ := h
  obtain ⟨d, e, rfl, h1, h2⟩ := hb.two
  cases d <;> cases e <;> try (exact noCase (show (none : Option D) = some z from hp))
  case int.int a c =>
    have hz : PyData.int (Builtin.bitAnd a c) = z := Option.some.inj hp
    subst hz
    cases h1.int; cases h2.int
    exact op_and pins s σ H _ _ v u Q I rx ry ⟨a, c, rfl, rfl, k _ _ (same_refl H) .int⟩
theorem opd_pow : OpD X .pow true (binaryOp .Pow) := by
  intro pins s σ H x y v u Q I rx ry h
  obtain ⟨ds, z, hb, hp, k⟩ := h
  obtain ⟨d, e, rfl, h1, h2⟩ := hb.two
  cases d <;> cases e <;> try (exact noCase (show (none : Option D) = some z from hp))
  case int.int a c =>
    obtain ⟨hf, hz⟩ := if_some (show (if (decide (0 ≤ c) && decide (c ≤ 1000000) && decide (a.natAbs < 2 ^ 64)) = true then some (PyData.int (a ^ c.toNat)) else none) = some z from hp)
    subst hz
    cases h1.int; cases h2.int
    simp only [Bool.and_eq_true, decide_eq_true_eq] at hf
    exact op_pow pins s σ H _ _ v u Q I rx ry ⟨a, c, rfl, rfl, ⟨hf.1.1, hf.1.2, hf.2⟩, k _ _ (same_refl H) .int⟩
/-! comparisons -/
theorem ord_parts {x y : D} (h : ordOk x y = true) : PySem.W.alike x y = true ∧ x ≠ .none ∧ x.depth ≤ 60 ∧ x.plain = true ∧ y.plain = true := by
  unfold ordOk flatOk at h
  simp only [Bool.and_eq_true, decide_eq_true_eq] at h
  refine ⟨h.1.1.1, ?_, h.1.1.2.2, h.1.1.2.1, h.1.2⟩
  rintro rfl
  exact absurd h.2 (by decide)
theorem cmp_lt (hr : X.A.units + 64 < cLine) : OpD X .lt true (compareOp .Lt) := by
  intro pins s σ H x y v u Q I rx ry h
  obtain ⟨ds, z, hb, hp, k⟩ := h
  obtain ⟨d, e, rfl, h1, h2⟩ := hb.two
  obtain ⟨hf, hz⟩ := if_some (show (if ordOk d e = true then some (PyData.bool (PySem.W.dataLt d e)) else none) = some z from hp)
  subst hz
  obtain ⟨al, nn, dp, p1, p2⟩ := ord_parts hf
  obtain ⟨as, r1⟩ := Dp.reads I d x v (h1.dp p1) rx
  obtain ⟨bs, r2⟩ := Dp.reads I e y u (h2.dp p2) ry
  exact PySem.W.lt_data r1 r2 al nn (by omega) ⟨.bl _, H, I, rfl, k _ _ (same_refl H) .bl⟩
theorem cmp_gt (hr : X.A.units + 64 < cLine) : OpD X .gt true (compareOp .Gt) := by
  intro pins s σ H x y v u Q I rx ry h
  obtain ⟨ds, z, hb, hp, k⟩ := h
  obtain ⟨d, e, rfl, h1, h2⟩ := hb.two
  obtain ⟨hf, hz⟩ := if_some (show (if ordOk d e = true then some (PyData.bool (PySem.W.dataLt e d)) else none) = some z from hp)
  subst hz
  obtain ⟨al, nn, dp, p1, p2⟩ := ord_parts hf
  obtain ⟨as, r1⟩ := Dp.reads I d x v (h1.dp p1) rx
  obtain ⟨bs, r2⟩ := Dp.reads I e y u (h2.dp p2) ry
  exact PySem.W.gt_data r1 r2 al nn (by omega) ⟨.bl _, H, I, rfl, k _ _ (same_refl H) .bl⟩
theorem cmp_le (hr : X.A.units + 64 < cLine) : OpD X .le true (compareOp .LtE) := by
  intro pins s σ H x y v u Q I rx ry h
  obtain ⟨ds, z, hb, hp, k⟩ := h
  obtain ⟨d, e, rfl, h1, h2⟩ := hb.two
  obtain ⟨hf, hz⟩ := if_some (show (if ordOk d e = true then some (PyData.bool (!PySem.W.dataLt e d)) else none) = some z from hp)
  subst hz
  obtain ⟨al, nn, dp, p1, p2⟩ := ord_parts hf
  obtain ⟨as, r1⟩ := Dp.reads I d x v (h1.dp p1) rx
  obtain ⟨bs, r2⟩ := Dp.reads I e y u (h2.dp p2) ry
  exact PySem.W.le_data r1 r2 al nn (by omega) ⟨.bl _, H, I, rfl, k _ _ (same_refl H) .bl⟩
theorem cmp_ge (hr : X.A.units + 64 < cLine) : OpD X .ge true (compareOp .GtE) := by
  intro pins s σ H x y v u Q I rx ry h
  obtain ⟨ds, z, hb, hp, k⟩ := h
  obtain ⟨d, e, rfl, h1, h2⟩ := hb.two
  obtain ⟨hf, hz⟩ := if_some (show (if ordOk d e = true then some (PyData.bool (!PySem.W.dataLt d e)) else none) = some z from hp)
  subst hz
  obtain ⟨al, nn, dp, p1, p2⟩ := ord_parts hf
  obtain ⟨as, r1⟩ := Dp.reads I d x v (h1.dp p1) rx
  obtain ⟨bs, r2⟩ := Dp.reads I e y u (h2.dp p2) ry
  exact PySem.W.ge_data r1 r2 al nn (by omega) ⟨.bl _, H, I, rfl, k _ _ (same_refl H) .bl⟩
theorem flat_parts {x : D} (h : flatOk x = true) : x.plain = true ∧ x.depth ≤ 60 := by
  unfold flatOk at h
  simp only [Bool.and_eq_true, decide_eq_true_eq] at h
  exact h
theorem cmp_parts {x y : D} (h : cmpOk x y = true) : x.plain = true ∧ y.plain = true ∧ x.depth ≤ 60 := by
  unfold cmpOk at h
  simp only [Bool.and_eq_true] at h
  exact ⟨(flat_parts h.1).1, h.2, (flat_parts h.1).2⟩
theorem cmp_eq (hr : X.A.units + 64 < cLine) : OpD X .eq true (compareOp .Eq) := by
  intro pins s σ H x y v u Q I rx ry h
  obtain ⟨ds, z, hb, hp, k⟩ := h
  obtain ⟨d, e, rfl, h1, h2⟩ := hb.two
  obtain ⟨hf, hz⟩ := if_some (show (if cmpOk d e = true then some (PyData.bool (PyData.eqv d e)) else none) = some z from hp)
  subst hz
  obtain ⟨p1, p2, dp⟩ := cmp_parts hf
  obtain ⟨as, r1⟩ := Dp.reads I d x v (h1.dp p1) rx
  obtain ⟨bs, r2⟩ := Dp.reads I e y u (h2.dp p2) ry
  exact SeqAt.eq_plain r1 r2 p1 p2 (by omega) ⟨.bl _, H, I, rfl, k _ _ (same_refl H) .bl⟩
theorem cmp_ne (hr : X.A.units + 64 < cLine) : OpD X .ne true (compareOp .NotEq) := by
  intro pins s σ H x y v u Q I rx ry h
  obtain ⟨ds, z, hb, hp, k⟩ := h
  obtain ⟨d, e, rfl, h1, h2⟩ := hb.two
  obtain ⟨hf, hz⟩ := if_some (show (if cmpOk d e = true then some (PyData.bool (!PyData.eqv d e)) else none) = some z from hp)
  subst hz
  obtain ⟨p1, p2, dp⟩ := cmp_parts hf
  obtain ⟨as, r1⟩ := Dp.reads I d x v (h1.dp p1) rx
  obtain ⟨bs, r2⟩ := Dp.reads I e y u (h2.dp p2) ry
  exact SeqAt.ne_plain r1 r2 p1 p2 (by omega) ⟨.bl _, H, I, rfl, k _ _ (same_refl H) .bl⟩
theorem sign_of {a : Str} (h : (a.length == 1) = true) : ∃ c, a = ⟨#[c]⟩ ∧ a.cps.getD 0 0 = c := by
  obtain ⟨cps⟩ := a
  have h : cps.size = 1 := by simpa [Str.length] using h
  obtain ⟨l⟩ := cps
  match l, h with
  | [c], _ => exact ⟨c, rfl, rfl⟩
/-- in, of lists, tuples and signs -/
theorem cmp_in (hr : X.A.units + 65 < cLine) : OpR X (compareOp .In) (fun x y H Q => ∃ ds z, (∀ d kvs, ds ≠ [d, .dict kvs]) ∧ BReps (wd X) H ds [x, y] ∧ prim .isin ds = some z ∧ ∀ v H', Same H H' → Res (wd X) true H H' z v → Q v H') := by
  intro pins s σ H x y v u Q I rx ry h
  obtain ⟨ds, z, nd, hb, hp, k⟩ := h
  obtain ⟨d, e, rfl, h1, h2⟩ := hb.two
  cases e with
  | list es =>
    obtain ⟨hf, hz⟩ := if_some (show (if (flatOk d && PyData.plainAll es) = true then some (PyData.bool (es.any fun z => PyData.eqv z d)) else none) = some z from by cases d <;> exact hp)
    subst hz
    rw [Bool.and_eq_true] at hf
    obtain ⟨p1, dp⟩ := flat_parts hf.1
    obtain ⟨as, r1⟩ := Dp.reads I d x v (h1.dp p1) rx
    obtain ⟨bs, r2⟩ := Dp.reads I (.list es) y u (h2.dp (by simpa [PyData.plain] using hf.2)) ry
    exact SeqAt.in_list_data r2 r1 hf.2 p1 (by omega) ⟨.bl _, H, I, rfl, k _ _ (same_refl H) .bl⟩
  | tuple es =>
    obtain ⟨hf, hz⟩ := if_some (show (if (flatOk d && PyData.plainAll es) = true then some (PyData.bool (es.any fun z => PyData.eqv z d)) else none) = some z from by cases d <;> exact hp)
    subst hz
    rw [Bool.and_eq_true] at hf
    obtain ⟨p1, dp⟩ := flat_parts hf.1
    obtain ⟨as, r1⟩ := Dp.reads I d x v (h1.dp p1) rx
    obtain ⟨bs, r2⟩ := Dp.reads I (.tuple es) y u (h2.dp (by simpa [PyData.plain] using hf.2)) ry
    exact SeqAt.in_tuple_data r2 r1 hf.2 p1 (by omega) ⟨.bl _, H, I, rfl, k _ _ (same_refl H) .bl⟩
  | dict kvs => exact (nd _ _ rfl).elim
  | str t =>
    cases d <;> try (exact noCase (show (none : Option D) = some z from hp))
    rename_i a
    obtain ⟨hf, hz⟩ := if_some (show (if (a.length == 1) = true then some (PyData.bool (t.cps.toList.contains (a.cps.getD 0 0))) else none) = some z from hp)
    subst hz
    obtain ⟨c, e1, e2⟩ := sign_of hf
    rw [e2] at k
    cases h1.str; cases h2.str
    refine op_in_sign pins s σ H _ _ v u Q I rx ry ⟨c, t, by rw [e1], rfl, ?_⟩
    have e3 : decide (c ∈ t.cps.toList) = t.cps.toList.contains c := by rw [List.contains_eq_mem]
    rw [e3]
    exact k _ _ (same_refl H) .bl
  | _ => cases d <;> exact noCase (show (none : Option D) = some z from hp)
theorem cmp_notin (hr : X.A.units + 65 < cLine) : OpR X (compareOp .NotIn) (fun x y H Q => ∃ ds z, (∀ d kvs, ds ≠ [d, .dict kvs]) ∧ BReps (wd X) H ds [x, y] ∧ prim .notin ds = some z ∧ ∀ v H', Same H H' → Res (wd X) true H H' z v → Q v H') := by
  intro pins s σ H x y v u Q I rx ry h
  obtain ⟨ds, z, nd, hb, hp, k⟩ := h
  obtain ⟨d, e, rfl, h1, h2⟩ := hb.two
  cases e with
  | list es =>
    obtain ⟨hf, hz⟩ := if_some (show (if (flatOk d && PyData.plainAll es) = true then some (PyData.bool (!es.any fun z => PyData.eqv z d)) else none) = some z from by cases d <;> exact hp)
    subst hz
    rw [Bool.and_eq_true] at hf
    obtain ⟨p1, dp⟩ := flat_parts hf.1
    obtain ⟨as, r1⟩ := Dp.reads I d x v (h1.dp p1) rx
    obtain ⟨bs, r2⟩ := Dp.reads I (.list es) y u (h2.dp (by simpa [PyData.plain] using hf.2)) ry
    exact SeqAt.notIn_list_data r2 r1 hf.2 p1 (by omega) ⟨.bl _, H, I, rfl, k _ _ (same_refl H) .bl⟩
  | tuple es =>
    obtain ⟨hf, hz⟩ := if_some (show (if (flatOk d && PyData.plainAll es) = true then some (PyData.bool (!es.any fun z => PyData.eqv z d)) else none) = some z from by cases d <;> exact hp)
    subst hz
    rw [Bool.and_eq_true] at hf
    obtain ⟨p1, dp⟩ := flat_parts hf.1
    obtain ⟨as, r1⟩ := Dp.reads I d x v (h1.dp p1) rx
    obtain ⟨bs, r2⟩ := Dp.reads I (.tuple es) y u (h2.dp (by simpa [PyData.plain] using hf.2)) ry
    exact SeqAt.notIn_tuple_data r2 r1 hf.2 p1 (by omega) ⟨.bl _, H, I, rfl, k _ _ (same_refl H) .bl⟩
  | dict kvs => exact (nd _ _ rfl).elim
  | str t =>
    cases d <;> try (exact noCase (show (none : Option D) = some z from hp))
    rename_i a
    obtain ⟨hf, hz⟩ := if_some (show (if (a.length == 1) = true then some (PyData.bool (!t.cps.toList.contains (a.cps.getD 0 0))) else none) = some z from hp)
    subst hz
    obtain ⟨c, e1, e2⟩ := sign_of hf
    rw [e2] at k
    cases h1.str; cases h2.str
    refine op_notIn_sign pins s σ H _ _ v u Q I rx ry ⟨c, t, by rw [e1], rfl, ?_⟩
    have e3 : decide (c ∈ t.cps.toList) = t.cps.toList.contains c := by rw [List.contains_eq_mem]
    rw [e3]
    exact k _ _ (same_refl H) .bl
  | _ => cases d <;> exact noCase (show (none : Option D) = some z from hp)
theorem und_neg : UnR X (unaryOp .USub) (fun x => rL (wd X) .neg true [x]) := by
  intro pins s σ H x v Q I rx h
  obtain ⟨ds, z, hb, hp, k⟩ := h
  obtain ⟨d, rfl, h1⟩ := hb.one
  cases d <;> try (exact noCase (show (none : Option D) = some z from hp))
  rename_i a
  have hz : PyData.int (-a) = z := Option.some.inj hp
  subst hz
  cases h1.int
  exact un_neg pins s σ H _ v Q I rx ⟨a, rfl, k _ _ (same_refl H) .int⟩
/-! calls -/
abbrev CallD (X : Cx) (o : Op) (nw : Bool) (f : Value) : Prop := CallR X f (rL (wd X) o nw)
theorem one_of {xs : List V} {us : List Value} (r : Vals xs us) {n : Nat} (h : xs.length = n) : us.length = n := by rw [← r.length]; exact h
theorem BReps.length {g : Wd} {H : Hp} : ∀ {ds : List D} {vs : List V}, BReps g H ds vs → vs.length = ds.length
  | [], _, h => by rw [show _ = [] from h]; rfl
  | d :: ds, _, h => by
    obtain ⟨v, r, rfl, _, h2⟩ := h
    rw [List.length_cons, List.length_cons, BReps.length h2]
/-- one operand -/
theorem arg1 {g : Wd} {H : Hp} {ds : List D} {vs : List V} {d : D} (h : BReps g H ds vs) (e : ds = [d]) : ∃ x, vs = [x] ∧ BRep g H d x := by
  subst e
  obtain ⟨v, r, rfl, h1, h2⟩ := h
  rw [show r = [] from h2]
  exact ⟨v, rfl, h1⟩
theorem arg2 {g : Wd} {H : Hp} {ds : List D} {vs : List V} {d e : D} (h : BReps g H ds vs) (q : ds = [d, e]) : ∃ x y, vs = [x, y] ∧ BRep g H d x ∧ BRep g H e y := by
  subst q
  obtain ⟨v, r, rfl, h1, h2⟩ := h
  obtain ⟨y, rfl, h3⟩ := arg1 h2 rfl
  exact ⟨v, y, rfl, h1, h3⟩
/-- how many operands -/
theorem only1 {o : Op} {ds : List D} {z : D} (h : prim o ds = some z) (h0 : ∀ z, prim o [] = some z → False) (h2 : ∀ a b r z, prim o (a :: b :: r) = some z → False) : ∃ d, ds = [d] := by
  match ds, h with
  | [], h => exact (h0 z h).elim
  | [d], _ => exact ⟨d, rfl⟩
  | a :: b :: r, h => exact (h2 a b r z h).elim
theorem cd_int : CallD X .int1 true (.type "int") := by
  intro pins s σ H xs us Q I r h
  obtain ⟨ds, z, hb, hp, k⟩ := h
  obtain ⟨d, rfl⟩ := only1 hp (fun z h => noD z h) (fun a b r z h => noD z (by cases a <;> exact h))
  obtain ⟨x, rfl, h1⟩ := arg1 hb rfl
  cases d <;> try (exact noCase (show (none : Option D) = some z from hp))
  case int a =>
    have hz : PyData.int a = z := Option.some.inj hp
    subst hz
    cases h1.int
    exact call_int1 pins s σ H _ us Q I r (.inl ⟨a, rfl, k _ _ (same_refl H) .int⟩)
  case bool a =>
    have hz : PyData.int (if a = true then 1 else 0) = z := Option.some.inj hp
    subst hz
    cases h1.bl
    exact call_int1 pins s σ H _ us Q I r (.inr ⟨a, rfl, k _ _ (same_refl H) .int⟩)
theorem cd_str : CallD X .str1 true (.type "str") := by
  intro pins s σ H xs us Q I r h
  obtain ⟨ds, z, hb, hp, k⟩ := h
  obtain ⟨d, rfl⟩ := only1 hp (fun z h => noD z h) (fun a b r z h => noD z (by cases a <;> exact h))
  obtain ⟨x, rfl, h1⟩ := arg1 hb rfl
  cases d <;> try (exact noCase (show (none : Option D) = some z from hp))
  case int a =>
    obtain ⟨hf, hz⟩ := if_someP (show (if a.natAbs.log2 < 1920 then some (PyData.str (toString a)) else none) = some z from hp)
    subst hz
    cases h1.int
    exact call_str_int pins s σ H _ us Q I r ⟨a, rfl, hf, k _ _ (same_refl H) .str⟩
theorem cd_abs : CallD X .abs1 true (.builtin "abs") := by
  intro pins s σ H xs us Q I r h
  obtain ⟨ds, z, hb, hp, k⟩ := h
  obtain ⟨d, rfl⟩ := only1 hp (fun z h => noD z h) (fun a b r z h => noD z (by cases a <;> exact h))
  obtain ⟨x, rfl, h1⟩ := arg1 hb rfl
  cases d <;> try (exact noCase (show (none : Option D) = some z from hp))
  case int a =>
    have hz : PyData.int (if a < 0 then -a else a) = z := Option.some.inj hp
    subst hz
    cases h1.int
    exact call_abs pins s σ H _ us Q I r ⟨a, rfl, k _ _ (same_refl H) .int⟩
theorem cd_tup : CallD X .tup1 true (.type "tuple") := by
  intro pins s σ H xs us Q I r h
  obtain ⟨ds, z, hb, hp, k⟩ := h
  obtain ⟨d, rfl⟩ := only1 hp (fun z h => noD z h) (fun a b r z h => noD z (by cases a <;> exact h))
  obtain ⟨x, rfl, h1⟩ := arg1 hb rfl
  cases d <;> try (exact noCase (show (none : Option D) = some z from hp))
  case list es =>
    have hz : PyData.tuple es = z := Option.some.inj hp
    subst hz
    obtain ⟨a, vs, rfl, s1, r1⟩ := h1.lst
    exact call_tuple_of pins s σ H _ us Q I r ⟨a, vs, rfl, .inl ⟨s1.sq, fun l hl => k _ _ (same_new hl) (.tup hl r1)⟩⟩
  case tuple es =>
    have hz : PyData.tuple es = z := Option.some.inj hp
    subst hz
    obtain ⟨a, vs, rfl, s1, r1⟩ := h1.tup
    exact call_tuple_of pins s σ H _ us Q I r ⟨a, vs, rfl, .inr ⟨s1, k _ _ (same_refl H) (.val rfl (by rw [Rep]; exact ⟨a, vs, rfl, s1, r1⟩))⟩⟩
theorem cd_lst (hc : X.calm = true) : CallD X .lst1 true (.type "list") := by
  intro pins s σ H xs us Q I r h
  obtain ⟨ds, z, hb, hp, k⟩ := h
  obtain ⟨d, rfl⟩ := only1 hp (fun z h => noD z h) (fun a b r z h => noD z (by cases a <;> exact h))
  obtain ⟨x, rfl, h1⟩ := arg1 hb rfl
  cases d <;> try (exact noCase (show (none : Option D) = some z from hp))
  case list es =>
    have hz : PyData.list es = z := Option.some.inj hp
    subst hz
    obtain ⟨a, vs, rfl, s1, r1⟩ := h1.lst
    exact call_list_of pins s σ H _ us Q I r ⟨a, vs, rfl, .inl s1.sq, fun l hl => k _ _ (same_new hl) (.lst rfl hl r1)⟩
  case tuple es =>
    have hz : PyData.list es = z := Option.some.inj hp
    subst hz
    obtain ⟨a, vs, rfl, s1, r1⟩ := h1.tup
    exact call_list_of pins s σ H _ us Q I r ⟨a, vs, rfl, .inr s1, fun l hl => k _ _ (same_new hl) (.lst rfl hl r1)⟩
  case dict kvs =>
    obtain ⟨hf, hz⟩ := if_some (show (if fitsLn kvs.length = true then some (PyData.list (kvs.map (·.1))) else none) = some z from hp)
    subst hz
    obtain ⟨a, u, ks, rfl, e, sh, r1⟩ := h1.dct
    obtain ⟨w, rfl, rw'⟩ := vals1 r
    cases (show w = Value.ref a from rw')
    obtain ⟨o, es, ep, ho, hx, hdt, hs, hz, en⟩ := dct_raw I e sh
    have el : es.size = ks.length := by rw [← Array.length_toList]; exact (Paired.length en).symm
    refine PySem.W.kdl_call (kdl_raw hs hx hdt) (I.ok.hd hc) ho (by omega) fun h' tk acc' c' kp e2 it => ?_
    have rv : Vals (ks.map (·.1)) acc'.toList := by
      have el2 : acc'.toList.length = acc'.size := by simp
      refine vals_of_at (by rw [List.length_map, el2, it.1, el]) fun j x v h1 h2 => ?_
      obtain ⟨en', hen, hv⟩ := it.2 j v (by rw [← Array.getElem?_toList]; exact h2)
      rw [List.getElem?_map] at h1
      obtain ⟨p, hp1, hp2⟩ := Option.map_eq_some_iff.mp h1
      obtain ⟨en2, hen2, hr⟩ := paired_get en hp1
      rw [Array.getElem?_toList, hen] at hen2
      cases hen2
      subst hv
      subst hp2
      exact hr.1
    have hf2 : H s.heap.objs.size = none := I.hok.fresh (Nat.le_refl _)
    refine ⟨.ref s.heap.objs.size, _, I.laid (t' := tk) (o := .lst (ks.map (·.1))) kp (Nat.le_refl _) ?_, rfl, k _ _ (same_new hf2) (.lst rfl hf2 r1.keys)⟩
    exact ⟨by rw [List.length_map]; exact hz, acc'.toList, c', rv, by rw [Array.toArray_toList]; exact e2⟩
theorem bools_vs {g : Wd} {H : Hp} : ∀ {ds : List D} {vs : List V} {bs : List Bool}, Reps g H ds vs → boolsOf ds = some bs → vs = bs.map V.bl
  | [], vs, bs, r, h => by
    rw [Reps] at r
    have e : bs = [] := by simpa [boolsOf] using h.symm
    rw [r, e]; rfl
  | d :: ds, vs, bs, r, h => by
    rw [Reps] at r
    obtain ⟨v, t, rfl, h1, h2⟩ := r
    cases d <;> try (exact noCase (show (none : Option (List Bool)) = some bs from h))
    rename_i b
    cases q : boolsOf ds with
    | none => simp [boolsOf, q] at h
    | some cs =>
      have e : b :: cs = bs := by simpa [boolsOf, q] using h
      subst e
      rw [Rep] at h1
      subst h1
      rw [bools_vs h2 q]; rfl
theorem ints_vs {g : Wd} {H : Hp} : ∀ {ds : List D} {vs : List V} {bs : List Int}, Reps g H ds vs → intsOf ds = some bs → vs = bs.map V.int
  | [], vs, bs, r, h => by
    rw [Reps] at r
    have e : bs = [] := by simpa [intsOf] using h.symm
    rw [r, e]; rfl
  | d :: ds, vs, bs, r, h => by
    rw [Reps] at r
    obtain ⟨v, t, rfl, h1, h2⟩ := r
    cases d <;> try (exact noCase (show (none : Option (List Int)) = some bs from h))
    rename_i b
    cases q : intsOf ds with
    | none => simp [intsOf, q] at h
    | some cs =>
      have e : b :: cs = bs := by simpa [intsOf, q] using h
      subst e
      rw [Rep] at h1
      subst h1
      rw [ints_vs h2 q]; rfl
theorem strs_vs {g : Wd} {H : Hp} : ∀ {ds : List D} {vs : List V} {bs : List Str}, Reps g H ds vs → strsOf ds = some bs → vs = bs.map V.str
  | [], vs, bs, r, h => by
    rw [Reps] at r
    have e : bs = [] := by simpa [strsOf] using h.symm
    rw [r, e]; rfl
  | d :: ds, vs, bs, r, h => by
    rw [Reps] at r
    obtain ⟨v, t, rfl, h1, h2⟩ := r
    cases d <;> try (exact noCase (show (none : Option (List Str)) = some bs from h))
    rename_i b
    cases q : strsOf ds with
    | none => simp [strsOf, q] at h
    | some cs =>
      have e : b :: cs = bs := by simpa [strsOf, q] using h
      subst e
      rw [Rep] at h1
      subst h1
      rw [strs_vs h2 q]; rfl
theorem map_some {α : Type} {o : Option α} {f : α → D} {z : D} (h : o.map f = some z) : ∃ a, o = some a ∧ f a = z := by
  cases o with
  | none => cases h
  | some a => exact ⟨a, rfl, Option.some.inj h⟩
theorem cd_any (hc : X.calm = true) : CallD X .any1 true (.builtin "any") := by
  intro pins s σ H xs us Q I r h
  obtain ⟨ds, z, hb, hp, k⟩ := h
  obtain ⟨d, rfl⟩ := only1 hp (fun z h => noD z h) (fun a b r z h => noD z (by cases a <;> exact h))
  obtain ⟨x, rfl, h1⟩ := arg1 hb rfl
  cases d <;> try (exact noCase (show (none : Option D) = some z from hp))
  case list es =>
    obtain ⟨bs, e1, hz⟩ := map_some (show (boolsOf es).map (fun bs => PyData.bool (bs.any id)) = some z from hp)
    subst hz
    obtain ⟨a, vs, rfl, s1, r1⟩ := h1.lst
    have e2 := bools_vs r1 e1
    subst e2
    exact cr_any hc pins s σ H _ us Q I r ⟨a, bs, rfl, s1.sq, k _ _ (same_refl H) .bl⟩
theorem cd_all (hc : X.calm = true) : CallD X .all1 true (.builtin "all") := by
  intro pins s σ H xs us Q I r h
  obtain ⟨ds, z, hb, hp, k⟩ := h
  obtain ⟨d, rfl⟩ := only1 hp (fun z h => noD z h) (fun a b r z h => noD z (by cases a <;> exact h))
  obtain ⟨x, rfl, h1⟩ := arg1 hb rfl
  cases d <;> try (exact noCase (show (none : Option D) = some z from hp))
  case list es =>
    obtain ⟨bs, e1, hz⟩ := map_some (show (boolsOf es).map (fun bs => PyData.bool (bs.all id)) = some z from hp)
    subst hz
    obtain ⟨a, vs, rfl, s1, r1⟩ := h1.lst
    have e2 := bools_vs r1 e1
    subst e2
    exact cr_all hc pins s σ H _ us Q I r ⟨a, bs, rfl, s1.sq, k _ _ (same_refl H) .bl⟩
theorem cd_sum (hc : X.calm = true) : CallD X .sum1 true (.builtin "sum") := by
  intro pins s σ H xs us Q I r h
  obtain ⟨ds, z, hb, hp, k⟩ := h
  obtain ⟨d, rfl⟩ := only1 hp (fun z h => noD z h) (fun a b r z h => noD z (by cases a <;> exact h))
  obtain ⟨x, rfl, h1⟩ := arg1 hb rfl
  cases d <;> try (exact noCase (show (none : Option D) = some z from hp))
  case list es =>
    obtain ⟨bs, e1, hz⟩ := map_some (show (intsOf es).map (fun ns => PyData.int ns.sum) = some z from hp)
    subst hz
    obtain ⟨a, vs, rfl, s1, r1⟩ := h1.lst
    have e2 := ints_vs r1 e1
    subst e2
    exact cr_sum hc pins s σ H _ us Q I r ⟨a, bs, rfl, s1.sq, k _ _ (same_refl H) .int⟩
theorem most_is : ∀ {ns : List Int} {j m : Int}, mostI ns = some j → m ∈ ns → (∀ y, y ∈ ns → y ≤ m) → j = m
  | [], j, m, h, _, _ => by cases h
  | i :: r, j, m, h, hm, hle => by
    unfold mostI at h
    cases q : mostI r with
    | none =>
      rw [q] at h
      have e : i = j := by simpa using h
      cases r with
      | nil =>
        have : m = i := by simpa using hm
        omega
      | cons a t =>
        unfold mostI at q
        cases q2 : mostI t <;> rw [q2] at q <;> simp at q
    | some l =>
      rw [q] at h
      have e : (if i < l then l else i) = j := by simpa using h
      have hi := hle i List.mem_cons_self
      -- l is the most of r
      have key : ∀ {ns : List Int} {l : Int}, mostI ns = some l → l ∈ ns ∧ ∀ y, y ∈ ns → y ≤ l := by
        intro ns
        induction ns with
        | nil => intro l h; cases h
        | cons a t ih =>
          intro l h
          unfold mostI at h
          cases q2 : mostI t with
          | none =>
            rw [q2] at h
            have e : a = l := by simpa using h
            have ht : t = [] := by
              cases t with
              | nil => rfl
              | cons b u =>
                unfold mostI at q2
                cases q3 : mostI u <;> rw [q3] at q2 <;> simp at q2
            subst ht
            subst e
            exact ⟨List.mem_cons_self, fun y hy => by have : y = a := by simpa using hy
                                                      omega⟩
          | some b =>
            rw [q2] at h
            obtain ⟨m1, m2⟩ := ih q2
            have e : (if a < b then b else a) = l := by simpa using h
            by_cases c : a < b
            · rw [if_pos c] at e
              subst e
              refine ⟨List.mem_cons_of_mem _ m1, fun y hy => ?_⟩
              rcases List.mem_cons.mp hy with z | z
              · omega
              · exact m2 y z
            · rw [if_neg c] at e
              subst e
              refine ⟨List.mem_cons_self, fun y hy => ?_⟩
              rcases List.mem_cons.mp hy with z | z
              · omega
              · have := m2 y z
                omega
      obtain ⟨l1, l2⟩ := key q
      have hl := hle l (List.mem_cons_of_mem _ l1)
      rcases List.mem_cons.mp hm with z | z
      · subst z
        split at e <;> omega
      · have := l2 m z
        split at e <;> omega
theorem least_neg : ∀ ns : List Int, leastI ns = (mostI (ns.map fun i => -i)).map fun i => -i
  | [] => rfl
  | i :: r => by
    rw [leastI, least_neg r, List.map_cons, mostI]
    cases q : mostI (r.map fun i => -i) with
    | none => simp
    | some l =>
      simp only [Option.map_some]
      by_cases c : -l < i
      · rw [if_pos c, if_pos (by omega)]
      · rw [if_neg c, if_neg (by omega)]; simp
theorem least_is {ns : List Int} {j m : Int} (h : leastI ns = some j) (hm : m ∈ ns) (hle : ∀ y, y ∈ ns → m ≤ y) : j = m := by
  rw [least_neg] at h
  cases q : mostI (ns.map fun i => -i) with
  | none => rw [q] at h; cases h
  | some l =>
    rw [q] at h
    have e : -l = j := by simpa using h
    have := most_is q (m := -m) (List.mem_map.mpr ⟨m, hm, rfl⟩) (fun y hy => by
      obtain ⟨x, hx, rfl⟩ := List.mem_map.mp hy
      have := hle x hx
      omega)
    omega
theorem most_some {ns : List Int} {j : Int} (h : mostI ns = some j) : 0 < ns.length := by
  cases ns with
  | nil => cases h
  | cons a t => simp
theorem least_some {ns : List Int} {j : Int} (h : leastI ns = some j) : 0 < ns.length := by
  cases ns with
  | nil => cases h
  | cons a t => simp
theorem only2 {o : Op} {ds : List D} {z : D} (h : prim o ds = some z) (h0 : ∀ z, prim o [] = some z → False) (h1 : ∀ a z, prim o [a] = some z → False) (h2 : ∀ a b c r z, prim o (a :: b :: c :: r) = some z → False) : ∃ d e, ds = [d, e] := by
  match ds, h with
  | [], h => exact (h0 z h).elim
  | [d], h => exact (h1 d z h).elim
  | [d, e], _ => exact ⟨d, e, rfl⟩
  | a :: b :: c :: r, h => exact (h2 a b c r z h).elim
theorem cd_max2 (hc : X.calm = true) : CallD X .max2 true (.builtin "max") := by
  intro pins s σ H xs us Q I r h
  obtain ⟨ds, z, hb, hp, k⟩ := h
  obtain ⟨d, e, rfl⟩ := only2 hp (fun z h => noD z h) (fun a z h => noD z (by cases a <;> exact h)) (fun a b c r z h => noD z (by cases a <;> cases b <;> exact h))
  obtain ⟨x, y, rfl, h1, h2⟩ := arg2 hb rfl
  cases d <;> cases e <;> try (exact noCase (show (none : Option D) = some z from hp))
  case int.int a c =>
    have hz : PyData.int (if c > a then c else a) = z := Option.some.inj hp
    subst hz
    cases h1.int; cases h2.int
    exact call_max2 hc pins s σ H _ us Q I r ⟨a, c, rfl, k _ _ (same_refl H) .int⟩
theorem cd_min2 (hc : X.calm = true) : CallD X .min2 true (.builtin "min") := by
  intro pins s σ H xs us Q I r h
  obtain ⟨ds, z, hb, hp, k⟩ := h
  obtain ⟨d, e, rfl⟩ := only2 hp (fun z h => noD z h) (fun a z h => noD z (by cases a <;> exact h)) (fun a b c r z h => noD z (by cases a <;> cases b <;> exact h))
  obtain ⟨x, y, rfl, h1, h2⟩ := arg2 hb rfl
  cases d <;> cases e <;> try (exact noCase (show (none : Option D) = some z from hp))
  case int.int a c =>
    have hz : PyData.int (if c < a then c else a) = z := Option.some.inj hp
    subst hz
    cases h1.int; cases h2.int
    exact call_min2 hc pins s σ H _ us Q I r ⟨a, c, rfl, k _ _ (same_refl H) .int⟩
theorem bind_some {α : Type} {o : Option α} {f : α → Option D} {z : D} (h : o.bind f = some z) : ∃ a, o = some a ∧ f a = some z := by
  cases o with
  | none => cases h
  | some a => exact ⟨a, rfl, h⟩
theorem cd_max1 (hc : X.calm = true) : CallD X .max1 true (.builtin "max") := by
  intro pins s σ H xs us Q I r h
  obtain ⟨ds, z, hb, hp, k⟩ := h
  obtain ⟨d, rfl⟩ := only1 hp (fun z h => noD z h) (fun a b r z h => noD z (by cases a <;> exact h))
  obtain ⟨x, rfl, h1⟩ := arg1 hb rfl
  cases d <;> try (exact noCase (show (none : Option D) = some z from hp))
  case list es =>
    obtain ⟨ns, e1, hz⟩ := bind_some (show (intsOf es).bind (fun ns => (mostI ns).map .int) = some z from hp)
    obtain ⟨j, e3, hz⟩ := map_some hz
    subst hz
    obtain ⟨a, vs, rfl, s1, r1⟩ := h1.lst
    have e2 := ints_vs r1 e1
    subst e2
    refine cr_max hc pins s σ H _ us Q I r ⟨a, ns, rfl, s1.sq, most_some e3, fun m hm hle => ?_⟩
    rw [← most_is e3 hm hle]
    exact k _ _ (same_refl H) .int
theorem cd_min1 (hc : X.calm = true) : CallD X .min1 true (.builtin "min") := by
  intro pins s σ H xs us Q I r h
  obtain ⟨ds, z, hb, hp, k⟩ := h
  obtain ⟨d, rfl⟩ := only1 hp (fun z h => noD z h) (fun a b r z h => noD z (by cases a <;> exact h))
  obtain ⟨x, rfl, h1⟩ := arg1 hb rfl
  cases d <;> try (exact noCase (show (none : Option D) = some z from hp))
  case list es =>
    obtain ⟨ns, e1, hz⟩ := bind_some (show (intsOf es).bind (fun ns => (leastI ns).map .int) = some z from hp)
    obtain ⟨j, e3, hz⟩ := map_some hz
    subst hz
    obtain ⟨a, vs, rfl, s1, r1⟩ := h1.lst
    have e2 := ints_vs r1 e1
    subst e2
    refine cr_min hc pins s σ H _ us Q I r ⟨a, ns, rfl, s1.sq, least_some e3, fun m hm hle => ?_⟩
    rw [← least_is e3 hm hle]
    exact k _ _ (same_refl H) .int
mutual
theorem plain_noDict : ∀ d : PyData, d.plain = true → d.hasDict = false
  | .none, _ => rfl
  | .bool _, _ => rfl
  | .int _, _ => rfl
  | .str _, _ => rfl
  | .list xs, h => by
    rw [PyData.hasDict]
    exact plain_noDicts xs (by simpa [PyData.plain] using h)
  | .tuple xs, h => by
    rw [PyData.hasDict]
    exact plain_noDicts xs (by simpa [PyData.plain] using h)
  | .dict _, h => by simp [PyData.plain] at h
theorem plain_noDicts : ∀ ds : List PyData, PyData.plainAll ds = true → PyData.hasDictAll ds = false
  | [], _ => rfl
  | d :: ds, h => by
    simp only [PyData.plainAll, Bool.and_eq_true] at h
    rw [PyData.hasDictAll, plain_noDict d h.1, plain_noDicts ds h.2]
    rfl
end
theorem cd_repr (hg : X.A.guards = some []) (hr : X.A.units + 65 < cLine) : CallD X .repr1 true (.builtin "repr") := by
  intro pins s σ H xs us Q I r h
  obtain ⟨ds, z, hb, hp, k⟩ := h
  obtain ⟨d, rfl⟩ := only1 hp (fun z h => noD z h) (fun a b r z h => noD z (by cases a <;> exact h))
  obtain ⟨x, rfl, h1⟩ := arg1 hb rfl
  obtain ⟨hf, hz⟩ := if_some (show (if (d.showable && d.plain && decide (d.shown.length ≤ sizeLine) && decide (d.depth ≤ 60) && isSeqD d) = true then some (PyData.str d.shown) else none) = some z from hp)
  subst hz
  simp only [Bool.and_eq_true, decide_eq_true_eq] at hf
  obtain ⟨⟨⟨⟨f1, f2⟩, f3⟩, f4⟩, f5⟩ := hf
  obtain ⟨u, rfl, ru⟩ := vals1 r
  obtain ⟨as, r1⟩ := Dp.reads I d x u (h1.dp f2) ru
  have hd : d.hasDict = true → sysModules ∉ as := fun hh => by
    exfalso
    rw [plain_noDict d f2] at hh; cases hh
  have ref : ∃ a, x = .ref a := by
    cases d with
    | list es => obtain ⟨a, vs, e, _⟩ := h1.lst; exact ⟨a, e⟩
    | tuple es => obtain ⟨a, vs, e, _⟩ := h1.tup; exact ⟨a, e⟩
    | _ => cases f5
  obtain ⟨a, rfl⟩ := ref
  cases ru
  refine repr_of_reads' r1 f1 hd hg (by omega) (fun _ _ e => e) (fun h' u tk hk => ?_) f3
  exact ⟨.str _, H, I.kept hk, ⟨_, rfl⟩, k _ _ (same_refl H) .str⟩
/-! subscripts -/
theorem Reps.atI {g : Wd} {H : Hp} {ds : List D} {vs : List V} {i : Int} {d : D} (r : Reps g H ds vs) (h : atI ds i = some d) : ∃ v, L2.atI vs i = some v ∧ Rep g H d v := by
  unfold L2.atI at h ⊢
  rw [r.length]
  cases q : ixN ds.length i with
  | none => rw [q] at h; cases h
  | some j =>
    rw [q] at h
    obtain ⟨v, e, r1⟩ := r.getD (i := j) (d := d) h
    exact ⟨v, e, r1⟩
theorem ix_seqD : IxR X (fun x y H Q => ∃ ds z, (∀ kvs d, ds ≠ [.dict kvs, d]) ∧ BReps (wd X) H ds [x, y] ∧ prim .idx ds = some z ∧ ∀ v H', Same H H' → Res (wd X) false H H' z v → Q v H') := by
  intro value slice pins s σ H x y v u Q I rx ry h hs
  obtain ⟨ds, z, nd, hb, hp, k⟩ := h
  obtain ⟨d, e, rfl, h1, h2⟩ := hb.two
  cases d with
  | dict kvs => exact (nd _ _ rfl).elim
  | list es =>
    cases e <;> try (exact noD z hp)
    rename_i i
    have hp : atI es i = some z := hp
    obtain ⟨a, vs, rfl, s1, r1⟩ := h1.lst
    cases h2.int
    obtain ⟨w, e1, r2⟩ := r1.atI hp
    exact ix_list value slice pins s σ H _ _ v u Q I rx ry ⟨a, vs, i, w, rfl, rfl, s1.sq, e1, k _ _ (same_refl H) (.old r2)⟩ hs
  | tuple es =>
    cases e <;> try (exact noD z hp)
    rename_i i
    have hp : atI es i = some z := hp
    obtain ⟨a, vs, rfl, s1, r1⟩ := h1.tup
    cases h2.int
    obtain ⟨w, e1, r2⟩ := r1.atI hp
    exact ix_tup value slice pins s σ H _ _ v u Q I rx ry ⟨a, vs, i, w, rfl, rfl, s1, e1, k _ _ (same_refl H) (.old r2)⟩ hs
  | str t =>
    cases e <;> try (exact noD z hp)
    rename_i i
    cases q : fitsLn t.length with
    | false =>
      have hp : (if fitsLn t.length = true then (atI t.cps.toList i).map fun c => PyData.str (oneSign c) else none) = some z := hp
      rw [q] at hp; cases hp
    | true =>
      have hp : (if fitsLn t.length = true then (atI t.cps.toList i).map fun c => PyData.str (oneSign c) else none) = some z := hp
      rw [q, if_pos rfl] at hp
      obtain ⟨c, e1, e2⟩ := map_some hp
      subst e2
      cases h1.str; cases h2.int
      exact ix_str value slice pins s σ H _ _ v u Q I rx ry ⟨t, i, c, rfl, rfl, fitsLn_le q, e1, k _ _ (same_refl H) .str⟩ hs
  | _ => cases e <;> exact noD z hp
/-! slices of lists -/
/-- a slice's parts -/
def cutD (ds : List D) (lo hi : Option Int) : List D := (ds.drop (HT.sIx ds.length 0 lo)).take (HT.sIx ds.length ds.length hi - HT.sIx ds.length 0 lo)
theorem Reps.cut {g : Wd} {H : Hp} {ds : List D} {vs : List V} (r : Reps g H ds vs) (lo hi : Option Int) : Reps g H (cutD ds lo hi) (cutV vs lo hi) := by
  unfold cutD cutV
  rw [r.length]
  exact Reps.take _ (Reps.drop _ r)
/-! the class of a value -/
def tyD : D → String
  | .none => "NoneType"
  | .bool _ => "bool"
  | .int _ => "int"
  | .str _ => "str"
  | .list _ => "list"
  | .tuple _ => "tuple"
  | .dict _ => "dict"
theorem kit_D {pins : List (Addr × Obj)} {σ : L2.St} {H : Hp} {s : Shared} {d : D} {x : V} {u : Value} (I : L2.Inv X pins σ H s) (r : RelV x u) (h : BRep (wd X) H d x) :
    ∃ P : Heap → Prop, PySem.W.KitX X.K u (.type (tyD d)) P ∧ P s.heap ∧ u ≠ .builtin "__main__.__loader__#opaque" := by
  cases d with
  | none => cases h.non; cases (show u = Value.none from r); exact ⟨_, PySem.W.kitx_none, True.intro, fun z => nomatch z⟩
  | bool b => cases h.bl; cases (show u = Value.bool b from r); exact ⟨_, PySem.W.kitx_bool, True.intro, fun z => nomatch z⟩
  | int i => cases h.int; obtain ⟨t, q⟩ := (show ∃ t, u = Value.int i t from r); cases q; exact ⟨_, PySem.W.kitx_int, True.intro, fun z => nomatch z⟩
  | str i => cases h.str; obtain ⟨t, q⟩ := (show ∃ t, u = Value.str i t from r); cases q; exact ⟨_, PySem.W.kitx_str, True.intro, fun z => nomatch z⟩
  | list ds =>
    obtain ⟨a, vs, rfl, s1, _⟩ := h.lst
    cases (show u = Value.ref a from r)
    obtain ⟨its, n, _, _, e⟩ := lst_at I s1
    exact ⟨_, PySem.W.kitx_list, ⟨_, e, rfl⟩, fun z => nomatch z⟩
  | tuple ds =>
    obtain ⟨a, vs, rfl, s1, _⟩ := h.tup
    cases (show u = Value.ref a from r)
    obtain ⟨its, _, ⟨o, e, c, _⟩, _⟩ := I.tuple s1
    exact ⟨_, PySem.W.kitx_tuple, ⟨o, e, c⟩, fun z => nomatch z⟩
  | dict kvs =>
    obtain ⟨a, ob, ks, rfl, e, sh, _⟩ := h.dct
    cases (show u = Value.ref a from r)
    obtain ⟨o, es, ep, ho, hx, _⟩ := dct_raw I e sh
    exact ⟨_, PySem.W.kitx_dict, ⟨o, ho, hx.1⟩, fun z => nomatch z⟩
def tyN : Nat → String
  | 0 => "int"
  | 1 => "bool"
  | 2 => "str"
  | 3 => "list"
  | 4 => "tuple"
  | 5 => "dict"
  | _ => "object"
def tyK : D → Nat
  | .none => 6
  | .bool _ => 1
  | .int _ => 0
  | .str _ => 2
  | .list _ => 3
  | .tuple _ => 4
  | .dict _ => 5
def nmC : Nat → String
  | 6 => "NoneType"
  | c => tyN c
def isaC (c t : Nat) : Bool := (c == t && c != 6) || (c == 1 && t == 0)
theorem kit_all : ∀ c, c < 7 → ∀ t, t < 6 → kitB (nmC c) (tyN t) = some (isaC c t) := by decide +kernel
theorem tyK_lt (d : D) : tyK d < 7 := by cases d <;> (show _ < 7; simp [tyK])
theorem tyD_nm (d : D) : tyD d = nmC (tyK d) := by cases d <;> rfl
theorem isaT_C (d : D) (t : Nat) (ht : t < 6) : isaT d t = isaC (tyK d) t := by
  match t, ht with
  | 0, _ => cases d <;> rfl
  | 1, _ => cases d <;> rfl
  | 2, _ => cases d <;> rfl
  | 3, _ => cases d <;> rfl
  | 4, _ => cases d <;> rfl
  | 5, _ => cases d <;> rfl
theorem kit_isa {K : PySem.W.Frag} (d : D) (t : Nat) (ht : t < 6) : PySem.W.kitOne K (.type (tyD d)) (.type (tyN t)) = some (isaT d t) := by
  rw [isaT_C d t ht, tyD_nm]
  exact kit_ty (kit_all _ (tyK_lt d) t ht)
theorem kit_any {K : PySem.W.Frag} (d : D) : ∀ ts : List Nat, (∀ t ∈ ts, t < 6) → PySem.W.kitAny K (.type (tyD d)) (ts.map fun t => .type (tyN t)) = some (ts.any fun t => isaT d t)
  | [], _ => kitAny_nil
  | t :: ts, h => by
    refine kitAny_cons (kit_isa d t (h t List.mem_cons_self)) (fun e => ?_) (fun e => ?_)
    · rw [kit_any d ts fun z hz => h z (List.mem_cons_of_mem _ hz), List.any_cons, e, Bool.false_or]
    · rw [List.any_cons, e, Bool.true_or]
end
end PV

set_option maxHeartbeats 4000000
/-! PV5: dicts. -/
namespace PV
open PySem L2

/-! ### keys -/
mutual
theorem nested_of {h : Heap} : ∀ (d : D) {u : Value} {as : List Addr}, keyOk d = true → Reads h u d as → NestedIs h (nk d) u
  | .none, _, _, _, r => by cases r; rw [nk]; exact .none
  | .bool b, _, _, _, r => by cases r; rw [nk]; exact .bool rfl
  | .int i, _, _, _, r => by cases r; rw [nk]; exact .int _ _
  | .str s, _, _, _, r => by cases r; rw [nk]; exact .text _ _
  | .tuple ds, _, _, hk, r => by
    cases r with
    | tuple h1 h2 h3 h4 =>
      rw [nk]
      exact .tup h1 h2 h3 (nesteds_of ds (by simpa [keyOk] using hk) h4)
  | .list _, _, _, hk, _ => by simp [keyOk] at hk
  | .dict _, _, _, hk, _ => by simp [keyOk] at hk
theorem nesteds_of {h : Heap} : ∀ (ds : List D) {us : List Value} {as : List Addr}, keyOks ds = true → ReadsAll h us ds as → NestedAll h (ds.map nk) us
  | [], _, _, _, r => by cases r; exact .nil
  | d :: ds, _, _, hk, r => by
    simp only [keyOks, Bool.and_eq_true] at hk
    cases r with
    | cons r1 r2 => exact .cons (nested_of d hk.1 r1) (nesteds_of ds hk.2 r2)
end
mutual
theorem keyOk_plain : ∀ d : D, keyOk d = true → d.plain = true
  | .none, _ => rfl
  | .bool _, _ => rfl
  | .int _, _ => rfl
  | .str _, _ => rfl
  | .tuple ds, h => by rw [PyData.plain]; exact keyOks_plain ds (by simpa [keyOk] using h)
  | .list _, h => by simp [keyOk] at h
  | .dict _, h => by simp [keyOk] at h
theorem keyOks_plain : ∀ ds : List D, keyOks ds = true → PyData.plainAll ds = true
  | [], _ => rfl
  | d :: ds, h => by
    simp only [keyOks, Bool.and_eq_true] at h
    rw [PyData.plainAll, keyOk_plain d h.1, keyOks_plain ds h.2]
    rfl
end
theorem kd2 {d : D} (h : keyKd d = 2) : ∃ ds, d = .tuple ds ∧ keyOks ds = true ∧ (nk (.tuple ds)).depth ≤ 8 := by
  cases d with
  | tuple ds =>
    have h : (if (keyOks ds && decide ((nk (.tuple ds)).depth ≤ 8)) = true then 2 else 0) = 2 := h
    by_cases c : (keyOks ds && decide ((nk (.tuple ds)).depth ≤ 8)) = true
    · rw [Bool.and_eq_true, decide_eq_true_eq] at c
      exact ⟨ds, rfl, c.1, c.2⟩
    · rw [if_neg c] at h; cases h
  | int _ => cases h
  | str _ => cases h
  | _ => cases h
section
variable {X : Cx} {pins : List (Addr × Obj)} {σ : L2.St} {H : Hp} {s : Shared}
/-- a tuple key -/
theorem key_is {d : D} {v : V} (I : L2.Inv X pins σ H s) (h : keyKd d = 2) (r : Rep (wd X) H d v) : ∃ b, v = .ref b ∧ (nestedKind X.prog X.w).is s.heap (nk d) b := by
  obtain ⟨ds, rfl, h1, h2⟩ := kd2 h
  have r0 := r
  rw [Rep] at r
  obtain ⟨b, vs, rfl, s1, r1⟩ := r
  have hk : keyOk (.tuple ds) = true := by rw [keyOk]; exact h1
  obtain ⟨as, q⟩ := Dp.reads I (.tuple ds) (.ref b) (.ref b) (Rep.dp _ (keyOk_plain _ hk) r0) rfl
  exact ⟨b, rfl, nested_of _ hk q, h2⟩
/-- an int or a text -/
def dK : Key → D
  | .inl i => .int i
  | .inr x => .str x
theorem rep_kV {g : Wd} {d : D} {k : Key} (h : Rep g H d (kV k)) : d = dK k := by
  cases d with
  | none => rw [Rep] at h; cases k <;> cases h
  | bool b => rw [Rep] at h; cases k <;> cases h
  | int i => rw [Rep] at h; cases k <;> cases h; rfl
  | str i => rw [Rep] at h; cases k <;> cases h; rfl
  | tuple ds => rw [Rep] at h; obtain ⟨a, vs, e, _⟩ := h; cases k <;> cases e
  | list ds => rw [Rep] at h; obtain ⟨a, vs, e, _⟩ := h; cases k <;> cases e
  | dict ds => rw [Rep] at h; obtain ⟨a, o, u, ks, e, _⟩ := h; cases k <;> cases e
theorem kd1 {g : Wd} {d : D} {v : V} (h : keyKd d = 1) (r : Rep g H d v) : ∃ k : Key, d = dK k ∧ v = kV k := by
  cases d with
  | int i => rw [Rep] at r; exact ⟨.inl i, rfl, r⟩
  | str i => rw [Rep] at r; exact ⟨.inr i, rfl, r⟩
  | tuple ds =>
    have h : (if (keyOks ds && decide ((nk (.tuple ds)).depth ≤ 8)) = true then 2 else 0) = 1 := h
    by_cases c : (keyOks ds && decide ((nk (.tuple ds)).depth ≤ 8)) = true
    · rw [if_pos c] at h; cases h
    · rw [if_neg c] at h; cases h
  | _ => cases h
theorem keyEq_dK (a b : Key) : keyEq (dK a) (dK b) = decide (a = b) := by
  unfold keyEq
  rw [← NestedKey.decide_eq]
  cases a with
  | inl i =>
    cases b with
    | inl j => rw [dK, dK, nk, nk, key_ll]; by_cases e : i = j <;> simp [e]
    | inr y => rw [dK, dK, nk, nk, key_lr]; simp
  | inr x =>
    cases b with
    | inl j => rw [dK, dK, nk, nk, key_rl]; simp
    | inr y => rw [dK, dK, nk, nk, key_rr]; by_cases e : x = y <;> simp [e]
theorem keyEq_nk (a b : D) : keyEq a b = decide (nk a = nk b) := (NestedKey.decide_eq _ _).symm
end

/-! ### looking up -/
/-- the value, where it is there -/
def RepV (g : Wd) (H : Hp) : Option D → Option V → Prop
  | some d, some v => Rep g H d v
  | none, none => True
  | _, _ => False
theorem look_dK {g : Wd} {H : Hp} {k : Key} : ∀ {kvs : List (D × D)} {l : List (Key × V)}, RepKs g H kvs (l.map fun p => (kV p.1, p.2)) → RepV g H (dlook (dK k) kvs) (valV l k)
  | [], l, r => by
    rw [RepKs] at r
    cases l with
    | nil => exact True.intro
    | cons p t => cases r
  | (a, b) :: t, l, r => by
    rw [RepKs] at r
    obtain ⟨x, y, u, e, h1, h2, h3⟩ := r
    cases l with
    | nil => cases e
    | cons p l =>
      cases e
      have ea := rep_kV h1
      subst ea
      unfold dlook
      rw [keyEq_dK]
      by_cases c : p.1 = k
      · rw [decide_eq_true c, if_pos rfl, valV_pos c]
        exact h2
      · rw [decide_eq_false c, if_neg Bool.false_ne_true, valV_neg c]
        exact look_dK h3
abbrev nkv (xs : List (NestedKey × Addr × V)) : List (NestedKey × V) := xs.map fun x => (x.1, x.2.2)
theorem look_nd {g : Wd} {H : Hp} {k : D} : ∀ {kvs : List (D × D)} {xs : List (NestedKey × Addr × V)}, RepKs g H kvs (xs.map fun x => (V.ref x.2.1, x.2.2)) → xs.map (·.1) = (kvs.map (·.1)).map nk → RepV g H (dlook k kvs) (valV (nkv xs) (nk k))
  | [], xs, r, e => by
    cases xs with
    | nil => exact True.intro
    | cons p t => cases e
  | (a, b) :: t, xs, r, e => by
    rw [RepKs] at r
    obtain ⟨x, y, u, e1, h1, h2, h3⟩ := r
    cases xs with
    | nil => cases e1
    | cons p l =>
      cases e1
      simp only [List.map_cons, List.cons.injEq] at e
      obtain ⟨e2, e3⟩ := e
      unfold dlook
      rw [keyEq_nk]
      by_cases c : nk a = nk k
      · rw [decide_eq_true c, if_pos rfl]
        show RepV g H (some b) (valV ((p.1, p.2.2) :: nkv l) (nk k))
        rw [valV_pos (show (p.1, p.2.2).1 = nk k from e2.trans c)]
        exact h2
      · rw [decide_eq_false c, if_neg Bool.false_ne_true]
        show RepV g H (dlook k t) (valV ((p.1, p.2.2) :: nkv l) (nk k))
        rw [valV_neg (show ¬ (p.1, p.2.2).1 = nk k from fun q => c (e2.symm.trans q))]
        exact look_nd h3 e3
theorem ndp_val {xs : List (NestedKey × Addr × V)} {ys : List (NestedKey × Addr × Value)} (r : NdP xs ys) (k : NestedKey) : RelO (valV (nkv xs) k) ((atKey ys k).map (·.2)) := by
  induction r with
  | nil => exact True.intro
  | @cons x y xs ys h t ih =>
    obtain ⟨h1, h2, h3⟩ := h
    by_cases c : x.1 = k
    · rw [show valV (nkv (x :: xs)) k = some x.2.2 from valV_pos (p := (x.1, x.2.2)) c]
      have : atKey (y :: ys) k = some y.2 := by simp [atKey, List.find?_cons, h1 ▸ c]
      rw [this]
      exact h3
    · rw [show valV (nkv (x :: xs)) k = valV (nkv xs) k from valV_neg (p := (x.1, x.2.2)) c]
      have : atKey (y :: ys) k = atKey ys k := by
        have hy : ¬ y.1 = k := fun q => c (h1.trans q)
        simp [atKey, List.find?_cons, hy]
      rw [this]
      exact ih

theorem ndp_keys {xs : List (NestedKey × Addr × V)} {ys : List (NestedKey × Addr × Value)} (r : NdP xs ys) : ys.map (·.1) = xs.map (·.1) := by
  induction r with
  | nil => rfl
  | cons h t ih => rw [List.map_cons, List.map_cons, ih, h.1]

/-! ### a dict to be read -/
/-- at a, of the shape u -/
def DcA (H : Hp) (a : Addr) (u : HO) : Prop := Rd H a u
section
variable {X : Cx} {pins : List (Addr × Obj)} {σ : L2.St} {H : Hp} {s : Shared} {A : Around} {E : Value → Shared → Prop} {a : Addr}
/-- a dict with tuple keys, or an empty one -/
def NdAt (X : Cx) (H : Hp) (a : Addr) (xs : List (NestedKey × Addr × V)) : Prop := Rd H a (.ext (ndPhi (wd X) a xs)) ∨ (xs = [] ∧ Rd H a (.dK []))
/-- the nested dict at a, for the library's rules -/
theorem nd_at {xs : List (NestedKey × Addr × V)} {kvs : List (D × D)} (I : L2.Inv X pins σ H s) (e : NdAt X H a xs) (r : RepKs (wd X) H kvs (xs.map fun x => (V.ref x.2.1, x.2.2)))
    (en : xs.map (·.1) = (kvs.map (·.1)).map nk) (h2 : ∀ d ∈ kvs.map (·.1), keyKd d = 2) :
    (a == sysModules) = false ∧ xs.length ≤ sizeLine ∧ ∃ ys, NdP xs ys ∧ s.heap.DictOfH (nestedKind X.prog X.w) a ys := by
  rcases e with e | ⟨rfl, e⟩
  case inr =>
    obtain ⟨z, hd, vs, rel, o, es, ep, ho, hx, hdt, q⟩ := dk_rd I.hok e
    have hv : vs = [] := by cases rel; rfl
    subst hv
    have hes : es.toList = [] := by
      have := q.2.1.length
      exact List.eq_nil_of_length_eq_zero (by simpa using this)
    exact ⟨hd, Nat.zero_le _, [], .nil, o, es, ep, ho, hx, hdt, hes, fun y hy => (nomatch hy), List.nodup_nil⟩
  have ok := e.ok I.hok
  obtain ⟨⟨hd, hz, nd, ys, p, o, es, ep, ho, hx, hdat, hes⟩, _, _⟩ := ok
  refine ⟨hd, hz, ys, p, o, es, ep, ho, hx, hdat, hes, ?_, ?_⟩
  · have go : ∀ {xs : List (NestedKey × Addr × V)} {ys : List (NestedKey × Addr × Value)} {kvs : List (D × D)}, NdP xs ys → RepKs (wd X) H kvs (xs.map fun x => (V.ref x.2.1, x.2.2)) → xs.map (·.1) = (kvs.map (·.1)).map nk → (∀ d ∈ kvs.map (·.1), keyKd d = 2) →
        ∀ y ∈ ys, (nestedKind X.prog X.w).is s.heap y.1 y.2.1 := by
      intro xs ys kvs p
      induction p generalizing kvs with
      | nil => intro _ _ _ y hy; cases hy
      | @cons x y xs ys h t ih =>
        intro r en h2 z hz
        cases kvs with
        | nil => cases en
        | cons q kvs =>
          obtain ⟨qa, qb⟩ := q
          rw [RepKs] at r
          obtain ⟨x1, y1, u, e1, r1, r2, r3⟩ := r
          cases e1
          simp only [List.map_cons, List.cons.injEq] at en
          rcases List.mem_cons.mp hz with rfl | hz
          · obtain ⟨b, eb, hb⟩ := key_is I (h2 qa (by simp)) r1
            cases eb
            rw [← h.2.1, ← h.1, en.1]
            exact hb
          · exact ih r3 en.2 (fun d hd => h2 d (by simp only [List.map_cons, List.mem_cons]; exact .inr hd)) z hz
    exact go p r en h2
  · rw [ndp_keys p]
    exact nd
/-- what a key gives -/
inductive Ask (X : Cx) (H : Hp) (a : Addr) (y : V) (o : Option V) : Prop
  | k (h : DGet H a y o)
  | n (xs : List (NestedKey × Addr × V)) (kvs : List (D × D)) (d : D) (e : NdAt X H a xs) (r : RepKs (wd X) H kvs (xs.map fun x => (V.ref x.2.1, x.2.2))) (en : xs.map (·.1) = (kvs.map (·.1)).map nk) (h2 : ∀ d ∈ kvs.map (·.1), keyKd d = 2)
      (rk : Rep (wd X) H d y) (hk : keyKd d = 2) (ho : o = valV (nkv xs) (nk d))
theorem fits_kinds {k : D} {p : D × D} {r : List (D × D)} (h : keyFits k (p :: r) = true) : keyKd k ≠ 0 ∧ keyKd p.1 = keyKd k := by
  unfold keyFits at h
  simp only [Bool.and_eq_true, bne_iff_ne, beq_iff_eq] at h
  exact h
theorem ask_of {u : HO} {kvs : List (D × D)} {ks : List (V × V)} {k : D} {y : V} (e : Rd H a u) (sh : DSh (wd X) a u (kvs.map (·.1)) ks) (r : RepKs (wd X) H kvs ks) (hf : keyFits k kvs = true) (rk : Rep (wd X) H k y) :
    ∃ o, Ask X H a y o ∧ RepV (wd X) H (dlook k kvs) o := by
  have k0 : keyKd k = 1 ∨ keyKd k = 2 := by
    have h0 : keyKd k ≠ 0 := by
      cases kvs with
      | nil =>
        unfold keyFits at hf
        simpa using hf
      | cons p t => exact (fits_kinds hf).1
    cases k with
    | int _ => exact .inl rfl
    | str _ => exact .inl rfl
    | tuple ds =>
      have h0 : (if (keyOks ds && decide ((nk (.tuple ds)).depth ≤ 8)) = true then 2 else 0) ≠ 0 := h0
      by_cases c : (keyOks ds && decide ((nk (.tuple ds)).depth ≤ 8)) = true
      · exact .inr (if_pos c)
      · rw [if_neg c] at h0; exact absurd rfl h0
    | _ => exact absurd rfl h0
  rcases sh with ⟨l, rfl, rfl⟩ | ⟨xs, hne, rfl, rfl, en, h2⟩
  · by_cases k1 : keyKd k = 1
    · obtain ⟨key, rfl, rfl⟩ := kd1 k1 rk
      exact ⟨_, .k (.inl ⟨l, key, e, rfl, rfl⟩), look_dK r⟩
    · have k2 : keyKd k = 2 := by rcases k0 with h | h; exact absurd h k1; exact h
      cases kvs with
      | nil =>
        rw [RepKs] at r
        have hl : l = [] := by cases l with
          | nil => rfl
          | cons _ _ => cases r
        subst hl
        exact ⟨_, .n [] [] k (.inr ⟨rfl, e⟩) (by rw [RepKs]; rfl) rfl (fun d hd => nomatch hd) rk k2 rfl, True.intro⟩
      | cons p t =>
        obtain ⟨_, h2⟩ := fits_kinds hf
        obtain ⟨pa, pb⟩ := p
        rw [RepKs] at r
        obtain ⟨x1, y1, u, e1, r1, _, _⟩ := r
        cases l with
        | nil => cases e1
        | cons q l =>
          cases e1
          have := rep_kV r1
          refine absurd ?_ k1
          rw [← h2, this]
          cases q.1 <;> rfl
  · have k2 : keyKd k = 2 := by
      cases kvs with
      | nil => cases xs with
        | nil => exact absurd rfl hne.1
        | cons _ _ => cases en
      | cons p t =>
        obtain ⟨_, h⟩ := fits_kinds hf
        rw [← h]
        exact h2 p.1 (by simp)
    exact ⟨_, .n xs kvs k (.inl e) r en h2 rk k2 rfl, look_nd r en⟩
theorem nroom {A : Around} (hu : A.units + 16 < cLine) : (nestedKind X.prog X.w).room A.in1 := by
  show A.units + 1 + 8 < cLine
  omega
theorem ask_item {y v : V} {u : Value} {Q : Value → Shared → Prop} (hu : A.units + 16 < cLine) (I : L2.Inv X pins σ H s) (g : Ask X H a y (some v)) (ry : RelV y u) (h : ∀ w' s', L2.Inv X pins σ H s' → RelV v w' → Q w' s') :
    wpAny (model X.prog X.w) A (getItem (.ref a) u) Q E s := by
  cases g with
  | k g => exact d_getItem (by omega) I g ry h
  | n xs kvs d e r en h2 rk hk ho =>
    obtain ⟨hd, hz, ys, p, dd⟩ := nd_at I e r en h2
    obtain ⟨b, rfl, hb⟩ := key_is I hk rk
    cases (show u = Value.ref b from ry)
    obtain ⟨w', hw, rw'⟩ := RelO.some_of (v := v) (o := (atKey ys (nk d)).map (·.2)) (by rw [ho]; exact ndp_val p (nk d))
    obtain ⟨q, hp, hp2⟩ := Option.map_eq_some_iff.mp hw
    refine wpAny_getItem_heap (nroom hu) hb dd hp ?_
    rw [hp2]
    exact h w' _ (I.tok _) rw'
theorem ask_in {y : V} {o : Option V} {u : Value} {Q : Value → Shared → Prop} (hu : A.units + 16 < cLine) (I : L2.Inv X pins σ H s) (g : Ask X H a y o) (ry : RelV y u) (h : ∀ s', L2.Inv X pins σ H s' → Q (.bool o.isSome) s') :
    wpAny (model X.prog X.w) A (compareOp .In u (.ref a)) Q E s := by
  cases g with
  | k g => exact d_in (by omega) I g ry h
  | n xs kvs d e r en h2 rk hk ho =>
    obtain ⟨hd, hz, ys, p, dd⟩ := nd_at I e r en h2
    obtain ⟨b, rfl, hb⟩ := key_is I hk rk
    cases (show u = Value.ref b from ry)
    refine wpAny_in_heap (nroom hu) hb hd dd ?_
    have q := (ndp_val p (nk d)).isSome_eq
    rw [Option.isSome_map] at q
    rw [← q, ← ho]
    exact h _ (I.tok _)
theorem ask_notin {y : V} {o : Option V} {u : Value} {Q : Value → Shared → Prop} (hu : A.units + 16 < cLine) (I : L2.Inv X pins σ H s) (g : Ask X H a y o) (ry : RelV y u) (h : ∀ s', L2.Inv X pins σ H s' → Q (.bool (!o.isSome)) s') :
    wpAny (model X.prog X.w) A (compareOp .NotIn u (.ref a)) Q E s := by
  cases g with
  | k g => exact d_notIn (by omega) I g ry h
  | n xs kvs d e r en h2 rk hk ho =>
    obtain ⟨hd, hz, ys, p, dd⟩ := nd_at I e r en h2
    obtain ⟨b, rfl, hb⟩ := key_is I hk rk
    cases (show u = Value.ref b from ry)
    refine PyProof.Rows.wpAny_notIn_heap (nroom hu) hb hd dd ?_
    have q := (ndp_val p (nk d)).isSome_eq
    rw [Option.isSome_map] at q
    rw [← q, ← ho]
    exact h _ (I.tok _)
theorem ask_get {y : V} {o : Option V} {u : Value} {Q : Value → Shared → Prop} (hu : A.units + 16 < cLine) (I : L2.Inv X pins σ H s) (g : Ask X H a y o) (ry : RelV y u) (h : ∀ w' s', L2.Inv X pins σ H s' → RelV (o.getD .non) w' → Q w' s') :
    wpAny (model X.prog X.w) A (call (.builtin "dict.get") [.ref a, u]) Q E s := by
  cases g with
  | k g => exact d_get1 (by omega) I g ry h
  | n xs kvs d e r en h2 rk hk ho =>
    obtain ⟨hd, hz, ys, p, dd⟩ := nd_at I e r en h2
    obtain ⟨b, rfl, hb⟩ := key_is I hk rk
    cases (show u = Value.ref b from ry)
    refine call_meetsIn PySem.F.slot_dict_get dd.typeIs PySem.F.entry_dict_get (PySem.F.args_dict_get_2 _ _) (meetsH_dict_get (nestedKind X.prog X.w) a b hd) ⟨nroom hu, nk d, ys, hb, dd, h _ _ (I.tok _) ?_⟩
    rw [ho]
    exact (ndp_val p (nk d)).getD rfl
theorem ask_get2 {y x : V} {o : Option V} {u z : Value} {Q : Value → Shared → Prop} (hu : A.units + 16 < cLine) (I : L2.Inv X pins σ H s) (g : Ask X H a y o) (ry : RelV y u) (rd : RelV x z) (h : ∀ w' s', L2.Inv X pins σ H s' → RelV (o.getD x) w' → Q w' s') :
    wpAny (model X.prog X.w) A (call (.builtin "dict.get") [.ref a, u, z]) Q E s := by
  cases g with
  | k g => exact d_get2 (by omega) I g ry rd h
  | n xs kvs d e r en h2 rk hk ho =>
    obtain ⟨hd, hz, ys, p, dd⟩ := nd_at I e r en h2
    obtain ⟨b, rfl, hb⟩ := key_is I hk rk
    cases (show u = Value.ref b from ry)
    refine call_meetsIn PySem.F.slot_dict_get dd.typeIs PySem.F.entry_dict_get (PySem.F.args_dict_get_3 _ _ _) (meetsH_dict_get_default (nestedKind X.prog X.w) a b hd z) ⟨nroom hu, nk d, ys, hb, dd, h _ _ (I.tok _) ?_⟩
    rw [ho]
    exact (ndp_val p (nk d)).getD rd
end
/-! ### rules of dicts -/
section
variable {X : Cx}
theorem cd_len : CallD X .len true (.builtin "len") := by
  intro pins s σ H xs us Q I r h
  obtain ⟨ds, z, hb, hp, k⟩ := h
  obtain ⟨d, rfl⟩ := only1 hp (fun z h => noD z h) (fun a b r z h => noD z (by cases a <;> exact h))
  obtain ⟨x, rfl, h1⟩ := arg1 hb rfl
  cases d <;> try (exact noCase (show (none : Option D) = some z from hp))
  case str t =>
    obtain ⟨hf, hz⟩ := if_some (show (if fitsLn t.length = true then some (PyData.int t.length) else none) = some z from hp)
    subst hz
    cases h1.str
    exact call_len_str pins s σ H _ us Q I r ⟨t, rfl, fitsLn_le hf, k _ _ (same_refl H) .int⟩
  case list es =>
    have hz : PyData.int es.length = z := Option.some.inj hp
    subst hz
    obtain ⟨a, vs, rfl, s1, r1⟩ := h1.lst
    refine call_len_seq pins s σ H _ us Q I r ⟨a, vs, rfl, .inl s1.sq, ?_⟩
    rw [r1.length]
    exact k _ _ (same_refl H) .int
  case tuple es =>
    have hz : PyData.int es.length = z := Option.some.inj hp
    subst hz
    obtain ⟨a, vs, rfl, s1, r1⟩ := h1.tup
    refine call_len_seq pins s σ H _ us Q I r ⟨a, vs, rfl, .inr s1, ?_⟩
    rw [r1.length]
    exact k _ _ (same_refl H) .int
  case dict kvs =>
    have hz : PyData.int kvs.length = z := Option.some.inj hp
    subst hz
    obtain ⟨a, u, ks, rfl, e, sh, r1⟩ := h1.dct
    obtain ⟨w, rfl, rw'⟩ := vals1 r
    cases (show w = Value.ref a from rw')
    have hl := r1.length
    have fin : ∀ t s', L2.Inv X pins σ H s' → EP X pins σ Q (.int kvs.length t) s' := fun t s' I' => ⟨.int kvs.length, H, I', ⟨_, rfl⟩, k _ _ (same_refl H) .int⟩
    rcases sh with ⟨l, rfl, rfl⟩ | ⟨xs, hne, rfl, rfl, en, h2⟩
    · refine d_len I e fun t s' I' => ?_
      have : l.length = kvs.length := by rw [← hl, List.length_map]
      rw [this]
      exact fin t s' I'
    · obtain ⟨hd, hz, ys, p, dd⟩ := nd_at I (.inl e) r1 en h2
      have hl2 : ys.length = kvs.length := by rw [← Paired.length p, ← hl, List.length_map]
      refine call_len_dictH hd dd (by rw [← Paired.length p]; rw [sizeLine_eq] at hz; omega) ?_
      rw [hl2]
      exact fin _ _ (I.tok _)
theorem BRep.key {g : Wd} {H : Hp} {d : D} {v : V} (h : BRep g H d v) (hk : keyKd d ≠ 0) : Rep g H d v := by
  rcases h with h | ⟨p, e, t⟩
  · exact h
  · cases d with
    | list _ => exact absurd rfl hk
    | dict _ => exact absurd rfl hk
    | _ => exact t.elim
theorem fit0 {k : D} {kvs : List (D × D)} (h : keyFits k kvs = true) : keyKd k ≠ 0 := by
  cases kvs with
  | nil => unfold keyFits at h; simpa using h
  | cons p t => exact (fits_kinds h).1
/-- what the dict of a value holds at a key -/
theorem ask_b {H : Hp} {kvs : List (D × D)} {d : D} {x y : V} (h1 : BRep (wd X) H (.dict kvs) x) (h2 : BRep (wd X) H d y) (hf : keyFits d kvs = true) : ∃ a o, x = .ref a ∧ Ask X H a y o ∧ RepV (wd X) H (dlook d kvs) o := by
  obtain ⟨a, u, ks, rfl, e, sh, r1⟩ := h1.dct
  obtain ⟨o, q, r⟩ := ask_of e sh r1 hf (h2.key (fit0 hf))
  exact ⟨a, o, rfl, q, r⟩
theorem dict_ty {pins : List (Addr × Obj)} {σ : L2.St} {H : Hp} {s : Shared} {kvs : List (D × D)} {x : V} {a : Addr} (I : L2.Inv X pins σ H s) (h1 : BRep (wd X) H (.dict kvs) x) (e : x = .ref a) : s.TypeIs (.ref a) "dict" := by
  obtain ⟨a', u, ks, rfl, e1, sh, r1⟩ := h1.dct
  cases e
  obtain ⟨o, es, ep, ho, hx, _⟩ := dct_raw I e1 sh
  exact ⟨o, ho, hx.1⟩
theorem dict_no {pins : List (Addr × Obj)} {σ : L2.St} {H : Hp} {s : Shared} {kvs : List (D × D)} {x : V} {a : Addr} (I : L2.Inv X pins σ H s) (h1 : BRep (wd X) H (.dict kvs) x) (e : x = .ref a) : ∀ b, Value.ref a = .ref b → ∃ ob, s.heap.get? b = some ob ∧ ob.dict = none := fun b q => by
  obtain ⟨a', u, ks, rfl, e1, sh, r1⟩ := h1.dct
  cases e
  cases q
  obtain ⟨o, es, ep, ho, hx, _⟩ := dct_raw I e1 sh
  exact ⟨o, ho, hx.2.1⟩
theorem RepV.some {g : Wd} {H : Hp} {o : Option D} {p : Option V} (r : RepV g H o p) : p.isSome = o.isSome := by
  cases o <;> cases p <;> first | rfl | exact r.elim
theorem opd_in (hr : X.A.units + 65 < cLine) : OpD X .isin true (compareOp .In) := by
  intro pins s σ H x y v u Q I rx ry h
  obtain ⟨ds, z, hb, hp, k⟩ := h
  obtain ⟨d, e, rfl, h1, h2⟩ := hb.two
  cases e with
  | dict kvs =>
    obtain ⟨hf, hz⟩ := if_some (show (if keyFits d kvs = true then some (PyData.bool (dlook d kvs).isSome) else none) = some z from by cases d <;> exact hp)
    subst hz
    obtain ⟨a, o, rfl, q, r⟩ := ask_b h2 h1 hf
    cases (show u = Value.ref a from ry)
    refine ask_in (by omega) I q rx fun s' I' => ?_
    rw [r.some]
    exact ⟨.bl _, H, I', rfl, k _ _ (same_refl H) .bl⟩
  | _ => exact cmp_in hr pins s σ H x y v u Q I rx ry ⟨_, z, (fun _ _ q => by cases q), hb, hp, k⟩
theorem opd_notin (hr : X.A.units + 65 < cLine) : OpD X .notin true (compareOp .NotIn) := by
  intro pins s σ H x y v u Q I rx ry h
  obtain ⟨ds, z, hb, hp, k⟩ := h
  obtain ⟨d, e, rfl, h1, h2⟩ := hb.two
  cases e with
  | dict kvs =>
    obtain ⟨hf, hz⟩ := if_some (show (if keyFits d kvs = true then some (PyData.bool (!(dlook d kvs).isSome)) else none) = some z from by cases d <;> exact hp)
    subst hz
    obtain ⟨a, o, rfl, q, r⟩ := ask_b h2 h1 hf
    cases (show u = Value.ref a from ry)
    refine ask_notin (by omega) I q rx fun s' I' => ?_
    rw [r.some]
    exact ⟨.bl _, H, I', rfl, k _ _ (same_refl H) .bl⟩
  | _ => exact cmp_notin hr pins s σ H x y v u Q I rx ry ⟨_, z, (fun _ _ q => by cases q), hb, hp, k⟩
theorem if_opt {c : Bool} {o : Option D} {z : D} (h : (if c = true then o else none) = some z) : c = true ∧ o = some z := by
  cases c with
  | true => exact ⟨rfl, h⟩
  | false => cases h
theorem ixD (hr : X.A.units + 65 < cLine) : IxR X (fun x y => rL (wd X) .idx false [x, y]) := by
  intro value slice pins s σ H x y v u Q I rx ry h hs
  obtain ⟨ds, z, hb, hp, k⟩ := h
  obtain ⟨d, e, rfl, h1, h2⟩ := hb.two
  cases d with
  | dict kvs =>
    obtain ⟨hf, hz⟩ := if_opt (show (if keyFits e kvs = true then dlook e kvs else none) = some z from by cases e <;> exact hp)
    obtain ⟨a, o, rfl, q, r⟩ := ask_b h1 h2 hf
    rw [hz] at r
    cases o with
    | none => exact r.elim
    | some w =>
      cases (show v = Value.ref a from rx)
      refine PyProof.Rows.tail_any (dict_ty I h1 rfl) slot_dict_getitem.lookup ?_ hs
      refine (ask_item (by omega) I q ry fun w' s' I' rw' => ?_)
      exact ⟨w, H, I', rw', k _ _ (same_refl H) (.old r)⟩
  | _ => exact ix_seqD value slice pins s σ H x y v u Q I rx ry ⟨_, z, (fun _ _ q => by cases q), hb, hp, k⟩ hs
/-- d.get(k), d.get(k, x) -/
theorem mtd_get (hr : X.A.units + 65 < cLine) : MtR X "dict.get" (fun x xs => rL (wd X) .dget false (x :: xs)) := by
  intro pins s σ H x xs v us Q I rx rxs h
  obtain ⟨ds, z, hb, hp, k⟩ := h
  match ds, hb, hp with
  | [], hb, hp => exact noD z hp
  | [d], hb, hp => exact noD z (by cases d <;> exact hp)
  | d :: e :: f :: r, hb, hp => exact noD z (by cases d <;> exact hp)
  | [d, e], hb, hp =>
    obtain ⟨x1, x2, ex, h1, h2⟩ := arg2 hb rfl
    cases ex
    cases d with
    | dict kvs =>
      obtain ⟨hf, hz⟩ := if_some (show (if keyFits e kvs = true then some ((dlook e kvs).getD .none) else none) = some z from hp)
      obtain ⟨a, o, rfl, q, r⟩ := ask_b h1 h2 hf
      cases (show v = Value.ref a from rx)
      obtain ⟨u, rfl, ru⟩ := vals1 rxs
      refine ask_get (by omega) I q ru fun w' s' I' rw' => ⟨_, H, I', rw', k _ _ (same_refl H) (.old ?_)⟩
      subst hz
      cases hd : dlook e kvs with
      | none =>
        rw [hd] at r
        cases o with
        | none => show Rep _ _ PyData.none V.non; rw [Rep]
        | some _ => exact r.elim
      | some d =>
        rw [hd] at r
        cases o with
        | none => exact r.elim
        | some w => exact r
    | _ => exact noD z hp
theorem mtd_get2 (hr : X.A.units + 65 < cLine) : MtR X "dict.get" (fun x xs => rL (wd X) .dget2 false (x :: xs)) := by
  intro pins s σ H x xs v us Q I rx rxs h
  obtain ⟨ds, z, hb, hp, k⟩ := h
  match ds, hb, hp with
  | [], hb, hp => exact noD z hp
  | [d], hb, hp => exact noD z (by cases d <;> exact hp)
  | [d, e], hb, hp => exact noD z (by cases d <;> exact hp)
  | d :: e :: f :: r :: t, hb, hp => exact noD z (by cases d <;> exact hp)
  | [d, e, f], hb, hp =>
    obtain ⟨x1, r1, ex, h1, hb1⟩ : ∃ v r, x :: xs = v :: r ∧ BRep (wd X) H d v ∧ BReps (wd X) H [e, f] r := hb
    cases ex
    obtain ⟨x2, x3, ex, h2, h3⟩ := arg2 hb1 rfl
    subst ex
    cases d with
    | dict kvs =>
      obtain ⟨hf, hz⟩ := if_some (show (if (keyFits e kvs && !isTopD f) = true then some ((dlook e kvs).getD f) else none) = some z from hp)
      rw [Bool.and_eq_true, Bool.not_eq_true'] at hf
      obtain ⟨a, o, rfl, q, r⟩ := ask_b h1 h2 hf.1
      cases (show v = Value.ref a from rx)
      cases rxs with
      | cons ru rxs =>
        obtain ⟨u3, rfl, ru3⟩ := vals1 rxs
        refine ask_get2 (by omega) I q ru ru3 fun w' s' I' rw' => ⟨_, H, I', rw', k _ _ (same_refl H) (.old ?_)⟩
        subst hz
        have h3' : Rep (wd X) H f x3 := by
          rcases h3 with h3 | ⟨p, _, t⟩
          · exact h3
          · have := t.isTop; rw [hf.2] at this; cases this
        cases hd : dlook e kvs with
        | none =>
          rw [hd] at r
          cases o with
          | none => exact h3'
          | some _ => exact r.elim
        | some d =>
          rw [hd] at r
          cases o with
          | none => exact r.elim
          | some w => exact r
    | _ => exact noD z hp

/-! ### storing -/
def putR {α β : Type} [DecidableEq α] : List (α × Addr × β) → α → Addr → β → List (α × Addr × β)
  | [], k, b, u => [(k, b, u)]
  | y :: ys, k, b, u => if y.1 = k then (y.1, y.2.1, u) :: ys else y :: putR ys k b u
theorem putAt_same {α : Type} [DecidableEq α] {k : α} {u : Value} : ∀ {ys : List (α × Addr × Value)}, k ∉ ys.map (·.1) → ys.map (PySem.putAt k u) = ys
  | [], _ => rfl
  | y :: ys, h => by
    simp only [List.map_cons, List.mem_cons, not_or] at h
    rw [List.map_cons, putAt_same h.2]
    unfold PySem.putAt
    rw [if_neg (fun e => h.1 e.symm)]
theorem stored_rec {α : Type} [DecidableEq α] {k : α} {b : Addr} {u : Value} : ∀ {ys : List (α × Addr × Value)}, (ys.map (·.1)).Nodup → storedH ys k b u = putR ys k b u
  | [], _ => rfl
  | y :: ys, h => by
    rw [List.map_cons, List.nodup_cons] at h
    unfold putR
    by_cases c : y.1 = k
    · rw [if_pos c, storedH_old (p := y.2) (by simp [atKey, List.find?_cons, c]), List.map_cons, putAt_same (by rw [← c]; exact h.1)]
      unfold PySem.putAt
      rw [if_pos c]
    · rw [if_neg c, ← stored_rec (k := k) (b := b) (u := u) h.2]
      have e : atKey (y :: ys) k = atKey ys k := by simp [atKey, List.find?_cons, c]
      cases q : atKey ys k with
      | none => rw [storedH_new q, storedH_new (e.trans q)]; rfl
      | some p =>
        rw [storedH_old q, storedH_old (e.trans q), List.map_cons]
        congr 1
        unfold PySem.putAt
        rw [if_neg c]
theorem ndp_put {k : NestedKey} {b : Addr} {y : V} {u : Value} (ry : RelV y u) : ∀ {xs : List (NestedKey × Addr × V)} {ys : List (NestedKey × Addr × Value)}, NdP xs ys → NdP (putR xs k b y) (putR ys k b u)
  | _, _, .nil => .cons ⟨rfl, rfl, ry⟩ .nil
  | _, _, .cons (a := x) (b := z) h t => by
    unfold putR
    by_cases c : x.1 = k
    · rw [if_pos c, if_pos (h.1.symm.trans c)]
      exact .cons ⟨h.1, h.2.1, ry⟩ t
    · rw [if_neg c, if_neg (fun e => c (h.1.trans e))]
      exact .cons h (ndp_put ry t)
theorem put_nd {g : Wd} {H : Hp} {k d : D} {b : Addr} {y : V} (rk : Rep g H k (.ref b)) (rv : Rep g H d y) : ∀ {kvs : List (D × D)} {xs : List (NestedKey × Addr × V)}, RepKs g H kvs (xs.map fun x => (V.ref x.2.1, x.2.2)) → xs.map (·.1) = (kvs.map (·.1)).map nk →
    RepKs g H (dput k d kvs) ((putR xs (nk k) b y).map fun x => (V.ref x.2.1, x.2.2)) ∧ (putR xs (nk k) b y).map (·.1) = ((dput k d kvs).map (·.1)).map nk
  | [], xs, r, e => by
    cases xs with
    | nil =>
      refine ⟨?_, rfl⟩
      show RepKs g H [(k, d)] [(V.ref b, y)]
      rw [RepKs]
      exact ⟨_, _, [], rfl, rk, rv, by rw [RepKs]⟩
    | cons p t => cases e
  | (a, c) :: t, xs, r, e => by
    rw [RepKs] at r
    obtain ⟨x, z, u, e1, h1, h2, h3⟩ := r
    cases xs with
    | nil => cases e1
    | cons p l =>
      cases e1
      simp only [List.map_cons, List.cons.injEq] at e
      obtain ⟨e2, e3⟩ := e
      unfold dput putR
      rw [keyEq_nk]
      by_cases q : nk a = nk k
      · rw [decide_eq_true q, if_pos rfl, if_pos (e2.trans q)]
        refine ⟨?_, by simp only [List.map_cons, e2, e3]⟩
        rw [List.map_cons, RepKs]
        exact ⟨_, _, _, rfl, h1, rv, h3⟩
      · rw [decide_eq_false q, if_neg Bool.false_ne_true, if_neg (fun z => q (e2.symm.trans z))]
        obtain ⟨i1, i2⟩ := put_nd rk rv h3 e3
        refine ⟨?_, by simp only [List.map_cons, e2, i2]⟩
        rw [List.map_cons, RepKs]
        exact ⟨_, _, _, rfl, h1, h2, i1⟩
theorem dput_keys {k d : D} {kvs : List (D × D)} {P : D → Prop} (hk : P k) (h : ∀ x ∈ kvs.map (·.1), P x) : ∀ x ∈ (dput k d kvs).map (·.1), P x := by
  induction kvs with
  | nil =>
    intro x hx
    have : x = k := by simpa [dput] using hx
    rw [this]; exact hk
  | cons p t ih =>
    intro x hx
    unfold dput at hx
    by_cases c : keyEq p.1 k = true
    · rw [if_pos c] at hx
      exact h x (by simpa using hx)
    · rw [if_neg c, List.map_cons, List.mem_cons] at hx
      rcases hx with rfl | hx
      · exact h _ (by simp)
      · exact ih (fun y hy => h y (by simp only [List.map_cons, List.mem_cons]; exact .inr hy)) x hx
theorem putR_len {α β : Type} [DecidableEq α] {k : α} {b : Addr} {u : β} : ∀ ys : List (α × Addr × β), (putR ys k b u).length ≤ ys.length + 1
  | [] => Nat.le_refl _
  | y :: ys => by
    unfold putR
    split
    · exact Nat.le_succ _
    · have := putR_len (k := k) (b := b) (u := u) ys
      simp only [List.length_cons]
      omega
theorem putR_ne {α β : Type} [DecidableEq α] {k : α} {b : Addr} {u : β} (ys : List (α × Addr × β)) : putR ys k b u ≠ [] := by
  cases ys with
  | nil => intro e; cases e
  | cons y ys =>
    unfold putR
    split <;> (intro e; cases e)
theorem putK_rec {k : Key} {y : V} : ∀ {l : List (Key × V)}, (l.map (·.1)).Nodup → putK l k y = (match l with | [] => [(k, y)] | p :: r => if p.1 = k then (p.1, y) :: r else p :: putK r k y)
  | [], _ => rfl
  | p :: r, h => by
    rw [List.map_cons, List.nodup_cons] at h
    show putK (p :: r) k y = if p.1 = k then (p.1, y) :: r else p :: putK r k y
    unfold putK
    by_cases c : p.1 = k
    · rw [if_pos c, if_pos (by simp [c]), List.map_cons, if_pos c]
      congr 1
      have : ∀ (l : List (Key × V)), k ∉ l.map (·.1) → (l.map fun kv => if kv.1 = k then (kv.1, y) else kv) = l := by
        intro l
        induction l with
        | nil => intro _; rfl
        | cons q t ih =>
          intro hq
          simp only [List.map_cons, List.mem_cons, not_or] at hq
          rw [List.map_cons, if_neg (fun z => hq.1 z.symm), ih hq.2]
      exact this r (by rw [← c]; exact h.1)
    · rw [if_neg c]
      have e : ((p :: r).any fun kv => decide (kv.1 = k)) = (r.any fun kv => decide (kv.1 = k)) := by rw [List.any_cons, decide_eq_false c, Bool.false_or]
      rw [e]
      split
      · rw [List.map_cons, if_neg c]
      · rfl
theorem put_dK {g : Wd} {H : Hp} {k : Key} {d : D} {y : V} (rv : Rep g H d y) : ∀ {kvs : List (D × D)} {l : List (Key × V)}, (l.map (·.1)).Nodup → RepKs g H kvs (l.map fun p => (kV p.1, p.2)) → RepKs g H (dput (dK k) d kvs) ((putK l k y).map fun p => (kV p.1, p.2))
  | [], l, nd, r => by
    rw [RepKs] at r
    cases l with
    | nil =>
      show RepKs g H [(dK k, d)] [(kV k, y)]
      rw [RepKs]
      exact ⟨_, _, [], rfl, (by cases k <;> (show Rep g H _ _; rw [dK, Rep]; rfl)), rv, by rw [RepKs]⟩
    | cons p t => cases r
  | (a, c) :: t, l, nd, r => by
    rw [RepKs] at r
    obtain ⟨x, z, u, e, h1, h2, h3⟩ := r
    cases l with
    | nil => cases e
    | cons p l =>
      cases e
      have ea := rep_kV h1
      subst ea
      rw [putK_rec nd]
      rw [List.map_cons, List.nodup_cons] at nd
      unfold dput
      rw [keyEq_dK]
      by_cases q : p.1 = k
      · rw [decide_eq_true q, if_pos rfl]
        simp only [if_pos q]
        rw [List.map_cons, RepKs]
        exact ⟨_, _, _, rfl, h1, rv, h3⟩
      · rw [decide_eq_false q, if_neg Bool.false_ne_true]
        simp only [if_neg q]
        rw [List.map_cons, RepKs]
        exact ⟨_, _, _, rfl, h1, h2, put_dK rv nd.2 h3⟩
/-- o[k] = v, of one's own lists and dicts -/
def rPut (g : Wd) : TSet := fun o i v H Q => ∃ p d k x d', o = .ref p ∧ Top g H p d ∧ Rep g H k i ∧ Rep g H x v ∧ PV.putAt d k x = some d' ∧ ∀ ob, Top g (upd H p ob) p d' → Q (upd H p ob)
theorem set_put (hr : X.A.units + 65 < cLine) : PSet X (rPut (wd X)) := by
  intro pins s σ H o i v ov iv u Q I ro ri rv h
  obtain ⟨p, d, k, x, d', rfl, t, rk, rx, hp, q⟩ := h
  cases d with
  | list ds =>
    cases k <;> try (exact (noCase (show (none : Option D) = some d' from hp)))
    rename_i j
    obtain ⟨vs, e, r⟩ := t
    have hj : (match ixN ds.length j with | some j => some (PyData.list (ds.set j x)) | none => none) = some d' := hp
    cases hn : ixN ds.length j with
    | none => rw [hn] at hj; cases hj
    | some n =>
      rw [hn] at hj
      cases hj
      have ei : i = .int j := by rw [Rep] at rk; exact rk
      refine set_list pins s σ H _ _ _ _ _ _ _ I ro ri rv ⟨p, vs, j, n, rfl, ei, e, by rw [r.length]; exact hn, q _ ?_⟩
      exact ⟨_, upd_same, Reps.mono (Kept.put (by rw [e]; trivial)) _ (Reps.set rx n r)⟩
  | dict kvs =>
    obtain ⟨ob, ks, e, sh, r⟩ := t
    obtain ⟨hf, hd⟩ := if_some (show (if (keyFits k kvs && decide (kvs.length < sizeLine)) = true then some (PyData.dict (dput k x kvs)) else none) = some d' from hp)
    rw [Bool.and_eq_true, decide_eq_true_eq] at hf
    subst hd
    have hl := r.length
    -- with tuple keys
    have nest : ∀ xs : List (NestedKey × Addr × V), NdAt X H p xs → ks = xs.map (fun x => (V.ref x.2.1, x.2.2)) → xs.map (·.1) = (kvs.map (·.1)).map nk → (∀ d ∈ kvs.map (·.1), keyKd d = 2) → Mut (H p) → keyKd k = 2 →
        wpAny (model X.prog X.w) X.A (setItem ov iv u) (fun _ s' => ∃ H', L2.Inv X pins σ H' s' ∧ Q H') X.xe s := by
      intro xs ea ek en h2 mu k2
      subst ek
      obtain ⟨hs, hz, ys, np, dd⟩ := nd_at I ea r en h2
      obtain ⟨b, rfl, hb⟩ := key_is I k2 rk
      cases (show ov = Value.ref p from ro)
      cases (show iv = Value.ref b from ri)
      have lx : xs.length = kvs.length := by rw [← hl, List.length_map]
      have ly : ys.length = xs.length := (Paired.length np).symm
      obtain ⟨i1, i2⟩ := put_nd (k := k) (d := x) rk rx r en
      have nds : (ys.map (·.1)).Nodup := dd.nodup
      refine wpAny_setItem_heap (hsz := by omega) (nroom (by omega)) hb dd fun h' dd' hs' => ?_
      rw [stored_rec nds] at dd'
      obtain ⟨o, es, ep, ho, hx, hdt, hes, his, hnd⟩ := dd'
      have new : L2.ObjOk X.prog X.w (upd H p (.ext (ndPhi (wd X) p (putR xs (nk k) b v)))) h' p (.ext (ndPhi (wd X) p (putR xs (nk k) b v))) := by
        refine ⟨⟨hs, ?_, ?_, putR ys (nk k) b u, ndp_put rv np, o, es, ep, ho, hx, hdt, hes⟩, ⟨o, ho⟩, ?_⟩
        · have := putR_len (k := nk k) (b := b) (u := v) xs
          omega
        · rw [← ndp_keys (ndp_put rv np)]
          exact hnd
        · rintro h1 h2 ⟨a1, a2, a3, zs, a4, o1, es1, ep1, a5, a6⟩ hk
          exact ⟨a1, a2, a3, zs, a4, o1, es1, ep1, hk _ a5, a6⟩
      refine ⟨_, d_write I mu hs' ⟨o, ho⟩ new, q _ ?_⟩
      have φ := new.1
      refine ⟨_, _, upd_same, .inr ⟨putR xs (nk k) b v, ⟨putR_ne xs, fun q z => ?_⟩, rfl, rfl, i2, dput_keys k2 h2⟩, RepKs.mono (Kept.put mu) _ i1⟩
      unfold LamX.CodeO at z
      injection z with z
      rw [z] at φ
      obtain ⟨oc, us, t, e1, e2, _⟩ := φ
      rw [ho] at e1
      cases e1
      rw [hdt] at e2
      cases e2
    rcases sh with ⟨l, rfl, rfl⟩ | ⟨xs, hne, rfl, ek, en, h2⟩
    · by_cases k1 : keyKd k = 1
      · obtain ⟨key, rfl, rfl⟩ := kd1 k1 rk
        have ll : l.length = kvs.length := by rw [← hl, List.length_map]
        have nd : (l.map (·.1)).Nodup := by
          obtain ⟨_, _, vs, rel, o, es, ep, _, _, _, _, _, hn⟩ := dk_of I.hok e
          rw [KV.keys rel]; exact hn
        cases (show ov = Value.ref p from ro)
        refine d_setItem (by omega) I (.inl ⟨l, key, e, rfl, by omega, rfl⟩) ri rv fun s' I' => ⟨_, I', q _ ?_⟩
        exact ⟨_, _, upd_same, .inl ⟨_, rfl, rfl⟩, RepKs.mono (Kept.put (by rw [e]; trivial)) _ (put_dK rx nd r)⟩
      · have k2 : keyKd k = 2 := by
          have h0 := fit0 hf.1
          cases k with
          | int _ => exact absurd rfl k1
          | str _ => exact absurd rfl k1
          | tuple ds =>
            have h0 : (if (keyOks ds && decide ((nk (.tuple ds)).depth ≤ 8)) = true then 2 else 0) ≠ 0 := h0
            by_cases c : (keyOks ds && decide ((nk (.tuple ds)).depth ≤ 8)) = true
            · exact if_pos c
            · rw [if_neg c] at h0; exact absurd rfl h0
          | _ => exact absurd rfl h0
        cases kvs with
        | nil =>
          rw [RepKs] at r
          have hl : l = [] := by cases l with
            | nil => rfl
            | cons _ _ => cases r
          subst hl
          exact nest [] (.inr ⟨rfl, .inl e⟩) rfl rfl (fun d hd => nomatch hd) (by rw [e]; trivial) k2
        | cons w t =>
          obtain ⟨_, h2⟩ := fits_kinds hf.1
          obtain ⟨pa, pb⟩ := w
          rw [RepKs] at r
          obtain ⟨x1, y1, u, e1, r1, _, _⟩ := r
          cases l with
          | nil => cases e1
          | cons q l =>
            cases e1
            have := rep_kV r1
            refine absurd ?_ k1
            rw [← h2, this]
            cases q.1 <;> rfl
    · have k2 : keyKd k = 2 := by
        cases kvs with
        | nil => cases xs with
          | nil => exact absurd rfl hne.1
          | cons _ _ => cases en
        | cons w t =>
          obtain ⟨_, h⟩ := fits_kinds hf.1
          rw [← h]
          exact h2 w.1 (by simp)
      exact nest xs (.inl (.inl e)) ek en h2 (by rw [e]; trivial) k2
  | _ => exact t.elim
end
end PV

set_option maxHeartbeats 4000000
/-! PV6: expressions. -/
namespace PV
open PySem L2

section
variable {X : Cx} {b : Bd} {W : WX} {a c d : Expr} {pos : Pos} {nw : Bool} {x y z : PV.X}

/-- frozen, if it is new -/
theorem eE (h : PE X a (tR b W nw x)) : PE X a (tE b W x) := pe_E h
theorem eO (hp : isPlace x = false) (h : PE X a (tR b W nw x)) : PE X a (tO b W x) := by rw [tO_val hp]; exact pe_E h
theorem oOwn {i : Nat} (h : PE X a (tVar i)) : PE X a (tO b W (.own i)) := h
theorem oBor {i : Nat} (h : PE X a (tVar i)) : PE X a (tO b W (.bor i)) := h

theorem eInt {i : Int} {j} : PE X (.Constant (.int i) j pos) (tR b W nw (.int i)) := PV.PE.imp pe_int fun σ H Q ⟨H0, M, B, ρ, G, q⟩ => aftE.now q (by rw [evE]) G rfl (by rw [Rep])
theorem eBl {i : Bool} {j} : PE X (.Constant (.bool i) j pos) (tR b W nw (.bl i)) := PV.PE.imp pe_bl fun σ H Q ⟨H0, M, B, ρ, G, q⟩ => aftE.now q (by rw [evE]) G rfl (by rw [Rep])
theorem eStr {i : Str} {j} : PE X (.Constant (.str i) j pos) (tR b W nw (.str i)) := PV.PE.imp pe_str fun σ H Q ⟨H0, M, B, ρ, G, q⟩ => aftE.now q (by rw [evE]) G rfl (by rw [Rep])
theorem eNon {j} : PE X (.Constant .none j pos) (tR b W nw .non) := PV.PE.imp pe_non fun σ H Q ⟨H0, M, B, ρ, G, q⟩ => aftE.now q (by rw [evE]) G rfl (by rw [Rep])
/-- a name's value -/
theorem slot_cases {ρ : Rho} (i : Nat) : (∃ d, ρ[i]? = some (some d)) ∨ ∀ d, ρ[i]? ≠ some (some d) := by
  cases e : ρ[i]? with
  | none => exact .inr fun d z => by cases z
  | some o =>
    cases o with
    | none => exact .inr fun d z => by cases z
    | some d => exact .inl ⟨d, rfl⟩
theorem ev_var {pg : Pg} {C : Orc} {ρ : Rho} {i : Nat} {d : D} (e : ρ[i]? = some (some d)) : evE pg C (.var i) ρ = .ok d ρ := by rw [evE]; simp only [e]
theorem ev_varN {pg : Pg} {C : Orc} {ρ : Rho} {i : Nat} (e : ∀ d, ρ[i]? ≠ some (some d)) : evE pg C (.var i) ρ = .bad := by
  rw [evE]
  split
  · rename_i h; exact absurd h (e _)
  · rfl
theorem ev_mv {pg : Pg} {C : Orc} {ρ : Rho} {i : Nat} {d : D} (e : ρ[i]? = some (some d)) : evE pg C (.mv i) ρ = .ok d (ρ.set i none) := by rw [evE]; simp only [e]
theorem ev_mvN {pg : Pg} {C : Orc} {ρ : Rho} {i : Nat} (e : ∀ d, ρ[i]? ≠ some (some d)) : evE pg C (.mv i) ρ = .bad := by
  rw [evE]
  split
  · rename_i h; exact absurd h (e _)
  · rfl
theorem eVar {i : Nat} (hk : b.ks[i]? = some .val) (h : PE X a (tVar i)) : PE X a (tR b W false (.var i)) := by
  refine PV.PE.imp h fun σ H Q q => ?_
  obtain ⟨H0, M, B, ρ, G, q⟩ := q
  rcases slot_cases (ρ := ρ) i with ⟨d, e⟩ | e
  · rw [ev_var e] at q
    obtain ⟨v, e2, r⟩ := G.val i d e hk
    exact ⟨v, e2, q v H (Kept.refl H) G (RR.of r)⟩
  · rw [ev_varN e] at q; exact q.elim
/-- the address that slot i held is nobody's, when slot i is forgotten -/
theorem Stt.moved {g : Wd} {T : List (Addr × Str)} {ks : List Kd} {H0 H : Hp} {M : Addr → Prop} {B : Lent} {σ : L2.St} {ρ : Rho} (G : Stt g T ks H0 M B H σ ρ) {i : Nat} {d : D} {p : Addr} (h : ρ[i]? = some (some d)) (ho : isOwn ks[i]? = true) (hp : σ[i]? = some (some (.ref p))) :
    ¬ OwnAt ks σ (ρ.set i none) p := by
  rintro ⟨j, x, h1, h2, h3⟩
  obtain ⟨h1, hne⟩ := set_none h1
  exact G.apart i j d x p (Ne.symm hne) h h1 ho h2 hp h3
/-- one's own list or dict, given away -/
theorem eMv {i : Nat} (hk : isOwn b.ks[i]? = true) (h : PE X a (tVar i)) : PE X a (tR b W true (.mv i)) := by
  refine PV.PE.imp h fun σ H Q q => ?_
  obtain ⟨H0, M, B, ρ, G, q⟩ := q
  rcases slot_cases (ρ := ρ) i with ⟨d, e⟩ | e
  · rw [ev_mv e] at q
    obtain ⟨p, e2, t, m, nb⟩ := G.own i d e hk
    refine ⟨_, e2, q _ H (Kept.refl H) (G.drop i) ?_⟩
    unfold RR
    rw [t.isTop]
    exact ⟨p, rfl, ⟨NF.of_mut t.mut, G.moved e hk e2, nb, m⟩, t⟩
  · rw [ev_mvN e] at q; exact q.elim

/-! ### operations -/
theorem ops1 {x : PV.X} {σ : L2.St} {H : Hp} {K : List V → Hp → Prop} (h : tOs b W [x] σ H K) : tO b W x σ H fun v H1 => K [v] H1 := by
  obtain ⟨H0, M, B, ρ, G, h⟩ := h
  exact first_op G h fun v H1 ρ1 k G1 a => no_op (W := W) G1 a
theorem ops2 {x y : PV.X} {σ : L2.St} {H : Hp} {K : List V → Hp → Prop} (h : tOs b W [x, y] σ H K) : tO b W x σ H fun v H1 => tO b W y σ H1 fun u H2 => K [v, u] H2 := by
  obtain ⟨H0, M, B, ρ, G, h⟩ := h
  exact first_op G h fun v H1 ρ1 k G1 a => first_op G1 a fun u H2 ρ2 k2 G2 a2 => no_op (W := W) G2 a2
theorem ops3 {x y z : PV.X} {σ : L2.St} {H : Hp} {K : List V → Hp → Prop} (h : tOs b W [x, y, z] σ H K) : tO b W x σ H fun v H1 => tO b W y σ H1 fun u H2 => tO b W z σ H2 fun t H3 => K [v, u, t] H3 := by
  obtain ⟨H0, M, B, ρ, G, h⟩ := h
  exact first_op G h fun v H1 ρ1 k G1 a => first_op G1 a fun u H2 ρ2 k2 G2 a2 => first_op G2 a2 fun t H3 ρ3 k3 G3 a3 => no_op (W := W) G3 a3

theorem imp_O {x : PV.X} {σ : L2.St} {H : Hp} {K K' : V → Hp → Prop} (h : tO b W x σ H K) (w : ∀ v H1, K v H1 → K' v H1) : tO b W x σ H K' := by
  have core : ∀ {i : Nat}, tVar i σ H K → tVar i σ H K' := fun ⟨v, e, q⟩ => ⟨v, e, w _ _ q⟩
  have val : tE b W x σ H K → tE b W x σ H K' := fun ⟨H0, M, B, ρ, G, q⟩ => by
    refine ⟨H0, M, B, ρ, G, ?_⟩
    cases h : evE b.pg b.C x ρ with
    | bad => rw [h] at q; exact q
    | exc c d ρ' => rw [h] at q; exact q
    | ok d ρ' => rw [h] at q; exact fun v H' k G' r => w _ _ (q v H' k G' r)
  cases x <;> first | exact val h | exact core h
/-- what is fixed in a body -/
structure Cn (X : Cx) (b : Bd) (W : WX) : Prop where
  g : b.g = wd X
  calm : X.calm = true
  nd : X.N.Nodup
  hr : Room b.k X.A
  gd : X.A.guards = some []
  pass : PassesOwn (model X.prog X.w) X.A X.env X.xe
  tk : Takes X W
  fc : b.F X.prog X.w X.K X.mg X.base
theorem Cn.u65 (c : Cn X b W) : X.A.units + 65 < cLine := by have := c.hr.un; omega

theorem eBin {o : Op} {op : Operator} (cn : Cn X b W) (ho : OpD X o nw (binaryOp op)) (ha : PE X a (tO b W x)) (hc : PE X c (tO b W y)) : PE X (.BinOp a op c pos) (tR b W nw (.op o [x, y])) := by
  refine PV.PE.imp (pe_op ho ha hc) (op_R fun σ H Q q => ?_)
  have := ops2 q
  rw [cn.g] at this
  exact this
theorem eCmp {o : Op} {op : CmpOp} (cn : Cn X b W) (ho : OpD X o nw (compareOp op)) (ha : PE X a (tO b W x)) (hc : PE X c (tO b W y)) (hm : behindInMarks op c = false) : PE X (.Compare a [op] [c] pos) (tR b W nw (.op o [x, y])) := by
  refine PV.PE.imp (pe_cmpR ho ha hc hm) (op_R fun σ H Q q => ?_)
  have := ops2 q
  rw [cn.g] at this
  exact this
theorem eUn {o : Op} {op : UnaryOp} (cn : Cn X b W) (ho : UnR X (unaryOp op) (fun x => rL (wd X) o nw [x])) (ha : PE X a (tO b W x)) : PE X (.UnaryOp op a pos) (tR b W nw (.op o [x])) := by
  refine PV.PE.imp (pe_un ho ha) (op_R fun σ H Q q => ?_)
  have := ops1 q
  rw [cn.g] at this
  exact this

/-! subscripts, None -/
theorem eIx (cn : Cn X b W) (ha : PE X a (tO b W x)) (hc : PE X c (tO b W y)) (hs : PlainIx c := by exact fun _ _ => rfl) : PE X (.Subscript a c pos) (tR b W false (.op .idx [x, y])) := by
  refine PV.PE.imp (pe_ix (ixD cn.u65) ha hc hs) (op_R fun σ H Q q => ?_)
  have := ops2 q
  rw [cn.g] at this
  exact this
theorem BRep.isN {g : Wd} {H : Hp} {d : D} {v : V} (h : BRep g H d v) : decide (v = .non) = isNoneD d := by
  cases d with
  | none => obtain rfl := h.non; rfl
  | bool _ => obtain rfl := h.bl; rfl
  | int _ => obtain rfl := h.int; rfl
  | str _ => obtain rfl := h.str; rfl
  | tuple _ => obtain ⟨a, vs, rfl, _⟩ := h.tup; rfl
  | list _ => obtain ⟨a, vs, rfl, _⟩ := h.lst; rfl
  | dict _ => obtain ⟨a, u, ks, rfl, _⟩ := h.dct; rfl
theorem only1P {ds : List D} {z : D} {o : Op} (ho : o = .isN ∨ o = .notN) (h : prim o ds = some z) : ∃ d, ds = [d] := by
  rcases ho with rfl | rfl <;> (match ds, h with
  | [d], _ => exact ⟨d, rfl⟩
  | [], h => exact noD z h
  | _ :: _ :: _, h => exact noD z h)
theorem eIsN {j p'} (ha : PE X a (tO b W x)) : PE X (.Compare a [.Is] [.Constant .none j p'] pos) (tR b W nw (.op .isN [x])) := by
  refine PV.PE.imp (pe_cmp (pc_isN ha)) (op_R fun σ H Q q => ?_)
  refine imp_O (ops1 q) fun v H1 r => ?_
  obtain ⟨ds, z, hb, hp, k⟩ := r
  obtain ⟨d, rfl⟩ := only1P (.inl rfl) hp
  obtain ⟨x1, ex, h1⟩ := arg1 hb rfl
  cases ex
  show Q (.bl (decide (v = .non))) H1
  rw [h1.isN]
  cases hp
  exact k _ _ (same_refl H1) .bl
theorem eNotN {j p'} (ha : PE X a (tO b W x)) : PE X (.Compare a [.IsNot] [.Constant .none j p'] pos) (tR b W nw (.op .notN [x])) := by
  refine PV.PE.imp (pe_cmp (pc_notN ha)) (op_R fun σ H Q q => ?_)
  refine imp_O (ops1 q) fun v H1 r => ?_
  obtain ⟨ds, z, hb, hp, k⟩ := r
  obtain ⟨d, rfl⟩ := only1P (.inr rfl) hp
  obtain ⟨x1, ex, h1⟩ := arg1 hb rfl
  cases ex
  show Q (.bl (!decide (v = .non))) H1
  rw [h1.isN]
  cases hp
  exact k _ _ (same_refl H1) .bl

/-! ### built-ins -/
section
variable {e : Expr} {es : List Expr} {xs : List PV.X} {nm : Str} {p : Pos} {o : Op}
theorem star_of : ∀ {es : List Expr} {xs : List PV.X}, OpsOk X b W (e :: es) xs → starEach (e :: es) X.env = (false, eval e X.env) :: starEach es X.env
  | _, [], h => h.elim
  | _, _ :: _, h => star_cons h.1.1 _ _
theorem eB {id : String} (cn : Cn X b W) (hc : CallD X o nw (.builtin id)) (hg : Gl X nm) (hm : X.mg nm = none) (hv : bootBuiltins nm = some (.builtin id)) (h : OpsOk X b W (e :: es) xs) (hn : nm ≠ "__name__" := by decide) (hdb : (nm == ("__debug__" : Str)) = false := by decide)
    (hpl : (backTo pos (starEach es X.env)).any (·.1) = false := by rfl) : PE X (.Call (.Name nm p) (e :: es) [] pos) (tR b W nw (.op o xs)) := by
  refine PV.PE.imp (pe_callB hc hg hm hv (pa_ops h) hn hdb (star_of h) hpl) (op_R fun σ H Q q => ?_)
  rw [cn.g] at q
  exact q
theorem eT {T : String} (cn : Cn X b W) (hc : CallD X o nw (.type T)) (hg : Gl X nm) (hm : X.mg nm = none) (hv : bootBuiltins nm = some (.type T)) (h : OpsOk X b W (e :: es) xs) (hn : nm ≠ "__name__" := by decide) (hdb : (nm == ("__debug__" : Str)) = false := by decide)
    (hpl : (backTo pos (starEach es X.env)).any (·.1) = false := by rfl) : PE X (.Call (.Name nm p) (e :: es) [] pos) (tR b W nw (.op o xs)) := by
  refine PV.PE.imp (pe_callTy hc hg hm hv (pa_ops h) hn hdb (star_of h) hpl) (op_R fun σ H Q q => ?_)
  rw [cn.g] at q
  exact q
end

/-! ### isinstance -/
/-- the classes of the numbers ts -/
def TyArg (ts : List Nat) (H : Hp) (v : V) : Prop := (∃ t, ts = [t] ∧ v = .ty (tyN t)) ∨ ∃ a, v = .ref a ∧ H a = some (.tup (ts.map fun t => V.ty (tyN t)))
theorem cd_isa {ts : List Nat} (ht : ∀ t ∈ ts, t < 6) : CallR X (.builtin "isinstance") (fun xs H Q => ∃ x c, xs = [x, c] ∧ TyArg ts H c ∧ rL (wd X) (.isa ts) nw [x] H Q) := by
  intro pins s σ H xs us Q I r h
  obtain ⟨x, c, rfl, tc, ds, z, hb, hp, k⟩ := h
  have : ∃ d, ds = [d] := match ds, hp with
    | [d], _ => ⟨d, rfl⟩
    | [], h => noD z h
    | _ :: _ :: _, h => noD z h
  obtain ⟨d, rfl⟩ := this
  obtain ⟨x1, ex, h1⟩ := arg1 hb rfl
  cases ex
  cases hp
  obtain ⟨u1, u2, rfl, r1, r2⟩ := vals2 r
  obtain ⟨P, Z, pz, hx⟩ := kit_D I r1 h1
  have fin : ∀ tk, EP X pins σ Q (.bool (ts.any fun t => isaT d t)) { s with toks := tk } := fun tk => ⟨.bl _, H, I.tok tk, rfl, k _ _ (same_refl H) .bl⟩
  rcases tc with ⟨t, rfl, rfl⟩ | ⟨a, rfl, hT⟩
  · cases (show u2 = Value.type (tyN t) from r2)
    refine PySem.W.kia_one Z I.kIn pz (kit_isa d t (ht t (by simp))) hx fun tk => ?_
    have := fin tk
    simpa using this
  · cases (show u2 = Value.ref a from r2)
    obtain ⟨hz0, its, rv, o, h1, h2, n, h3⟩ := (show L2.ObjOk X.prog X.w H s.heap a (.tup (ts.map fun t => V.ty (tyN t))) from I.hok a _ hT)
    have e3 : its = ts.map fun t => Value.type (tyN t) := by
      clear h3 fin k hT ht h1 h2 hz0
      generalize hl : (ts.map fun t => V.ty (tyN t)) = l at rv
      induction rv generalizing ts with
      | nil =>
        cases ts with
        | nil => rfl
        | cons _ _ => cases hl
      | cons q t ih =>
        cases ts with
        | nil => cases hl
        | cons w ts =>
          cases hl
          rw [List.map_cons, ← ih rfl]
          congr 1
    subst e3
    obtain ⟨oc, od, dt, sl⟩ := o
    simp only at h2 h3
    subst h2 h3
    exact PySem.W.kia_tup Z I.kIn pz h1 (kit_any d ts ht) hx fin
/-- isinstance(a, T): te, what makes the class (a name, or a tuple of names) -/
theorem eIsa {ts : List Nat} {p : Pos} {te : TE} (cn : Cn X b W) (ht : ∀ t ∈ ts, t < 6) (hg : Gl X "isinstance") (hm : X.mg "isinstance" = none) (ha : PE X a (tO b W x)) (hc : PE X c te)
    (hk : ∀ σ H (Q : VK), (∀ v H', Kept H H' → Same H H' → TyArg ts H' v → Q v H') → te σ H Q) (hs : noStar a = true) (hs2 : noStar c = true) :
    PE X (.Call (.Name "isinstance" p) [a, c] [] pos) (tR b W nw (.op (.isa ts) [x])) := by
  have ps : starEach [a, c] X.env = (false, eval a X.env) :: starEach [c] X.env := star_cons hs [c] X.env
  have ps2 : starEach [c] X.env = (false, eval c X.env) :: starEach [] X.env := star_cons hs2 [] X.env
  refine PV.PE.imp (pe_callB (cd_isa (nw := nw) ht) hg hm (by decide +kernel) (pa_cons ha (pa_cons hc pa_nil ps2) ps) (by decide) (by decide) ps (by rw [ps2]; rfl)) (op_R fun σ H Q q => ?_)
  rw [cn.g] at q
  obtain ⟨H0, M, B, ρ, G, q⟩ := q
  show tO b W x σ H fun v H1 => te σ H1 fun u H2 => ∃ x c, [v, u] = [x, c] ∧ TyArg ts H2 c ∧ rL (wd X) (.isa ts) nw [x] H2 Q
  refine imp_O (ops1 ⟨H0, M, B, ρ, G, q⟩) fun v H1 r => hk σ H1 _ fun u H2 k2 s2 tu => ⟨v, u, rfl, tu, ?_⟩
  obtain ⟨ds, z, hb, hp, k⟩ := r
  refine ⟨ds, z, ?_, hp, fun v' H' s' r' => k v' H' (fun a o e => s' a o (s2 a o e)) ?_⟩
  · obtain ⟨d, rfl⟩ : ∃ d, ds = [d] := match ds, hp with
      | [d], _ => ⟨d, rfl⟩
      | [], h => noD z h
      | _ :: _ :: _, h => noD z h
    obtain ⟨x1, ex, h1⟩ := arg1 hb rfl
    cases ex
    exact ⟨v, [], rfl, h1.same s2, rfl⟩
  · have hz : isTopD z = false := by
      obtain ⟨d, rfl⟩ : ∃ d, ds = [d] := match ds, hp with
        | [d], _ => ⟨d, rfl⟩
        | [], h => noD z h
        | _ :: _ :: _, h => noD z h
      cases hp; rfl
    unfold Res at r' ⊢
    rw [hz] at r' ⊢
    exact r'

theorem isaN {t : Nat} (σ : L2.St) (H : Hp) (Q : VK) (q : ∀ v H', Kept H H' → Same H H' → TyArg [t] H' v → Q v H') : tC (.ty (tyN t)) σ H Q := q _ H (Kept.refl H) (same_refl H) (.inl ⟨t, rfl, rfl⟩)
theorem isa2 {t u : Nat} (σ : L2.St) (H : Hp) (Q : VK) (q : ∀ v H', Kept H H' → Same H H' → TyArg [t, u] H' v → Q v H') : tTup (tCons (tC (.ty (tyN t))) (tCons (tC (.ty (tyN u))) tNil)) σ H Q :=
  ⟨by show 2 ≤ sizeLine; decide, fun p hp => q _ _ (Kept.new hp) (same_new hp) (.inr ⟨p, rfl, upd_same⟩)⟩
theorem isa3 {t u w : Nat} (σ : L2.St) (H : Hp) (Q : VK) (q : ∀ v H', Kept H H' → Same H H' → TyArg [t, u, w] H' v → Q v H') : tTup (tCons (tC (.ty (tyN t))) (tCons (tC (.ty (tyN u))) (tCons (tC (.ty (tyN w))) tNil))) σ H Q :=
  ⟨by show 3 ≤ sizeLine; decide, fun p hp => q _ _ (Kept.new hp) (same_new hp) (.inr ⟨p, rfl, upd_same⟩)⟩

/-! ### bools -/
def aftB (b : Bd) (W : WX) (H0 : Hp) (M : Addr → Prop) (B : Lent) (σ : L2.St) (H : Hp) (Q : Bool → Hp → Prop) (r : R Bool) : Prop :=
  match r with
  | .ok d ρ' => ∀ H', Kept H H' → Stt b.g b.T b.ks H0 M B H' σ ρ' → Q d H'
  | .exc c d ρ' => ∀ cls dd H', Kept H H' → Stt b.g b.T b.ks H0 M B H' σ ρ' → ExR b.g b.EC H' c d cls dd → W cls dd σ H'
  | .bad => False
theorem RR.bl {H0 H H' : Hp} {M : Addr → Prop} {B : Lent} {σ : L2.St} {ρ' : Rho} {i : Bool} {v : V} (r : RR b nw H0 M B H σ H' ρ' (.bool i) v) : v = .bl i := by
  have r : Rep b.g H' (.bool i) v := r
  rw [Rep] at r; exact r
theorem aftB.E {H0 H : Hp} {M : Addr → Prop} {B : Lent} {σ : L2.St} {Q : Bool → Hp → Prop} {r : R D} (q : aftB b W H0 M B σ H Q (asBool r)) : aftE b W nw H0 M B σ H (fun v H' => ∃ c, v = .bl c ∧ Q c H') r := by
  cases r with
  | bad => exact q
  | exc c d ρ' => exact q
  | ok d ρ' =>
    cases d with
    | bool i => exact fun v H' k G' r => ⟨i, r.bl, q H' k G'⟩
    | _ => exact q.elim
theorem tT_E {σ : L2.St} {H : Hp} {Q : Bool → Hp → Prop} (q : tT b W x σ H Q) : tR b W nw x σ H fun v H' => ∃ c, v = .bl c ∧ Q c H' := by
  obtain ⟨H0, M, B, ρ, G, q⟩ := q
  exact ⟨H0, M, B, ρ, G, aftB.E q⟩
/-- a value as a test -/
theorem tV (h : PE X a (tR b W nw x)) (he : ∀ whole, isTrue a X.env whole = (do let v ← whole; standAt a.pos; holding [v] (truthy v)) := by intro _; rfl) : PT X a (tT b W x) := PV.PT.imp (pt_val h he) fun _ _ _ q => tT_E q
theorem tNo (h : PT X a (tT b W x)) : PT X (.UnaryOp .Not a pos) (tT b W (.not x)) := by
  refine PV.PT.imp (pt_not h) fun σ H Q q => ?_
  obtain ⟨H0, M, B, ρ, G, q⟩ := q
  refine ⟨H0, M, B, ρ, G, ?_⟩
  rw [evE] at q
  cases h : asBool (evE b.pg b.C x ρ) with
  | bad => rw [h] at q; exact q
  | exc c d ρ' => rw [h] at q; exact q
  | ok d ρ' => rw [h] at q; exact q
theorem eNot (h : PE X a (tR b W false x)) : PE X (.UnaryOp .Not a pos) (tR b W nw (.not x)) := by
  refine PV.PE.imp (pe_not h) fun σ H Q q => ?_
  obtain ⟨H0, M, B, ρ, G, q⟩ := q
  refine ⟨H0, M, B, ρ, G, ?_⟩
  rw [evE] at q
  cases h : evE b.pg b.C x ρ with
  | bad => rw [h] at q; exact q
  | exc c d ρ' => rw [h] at q; exact q
  | ok d ρ' =>
    rw [h] at q
    cases d with
    | bool i => exact fun v H' k G' r => ⟨i, r.bl, q _ H' k G' (RR.low rfl (by rw [Rep]))⟩
    | _ => exact q.elim
/-- a and b ..; a or b .. -/
def tAn (b : Bd) (W : WX) (nw : Bool) (xs : List PV.X) : TE := fun σ H Q => ∃ H0 M B ρ, Stt b.g b.T b.ks H0 M B H σ ρ ∧ aftE b W nw H0 M B σ H Q (evAnd b.pg b.C xs ρ)
def tOrr (b : Bd) (W : WX) (nw : Bool) (xs : List PV.X) : TE := fun σ H Q => ∃ H0 M B ρ, Stt b.g b.T b.ks H0 M B H σ ρ ∧ aftE b W nw H0 M B σ H Q (evOr b.pg b.C xs ρ)
variable {ys : List PV.X} {rest : List Expr}
theorem an1 (h : PE X a (tR b W nw x)) : PE X (.BoolOp .And [a] pos) (tAn b W nw [x]) := PV.PE.imp (pe_one h) fun σ H Q ⟨H0, M, B, ρ, G, q⟩ => ⟨H0, M, B, ρ, G, by rw [evAnd] at q; exact q⟩
theorem or1 (h : PE X a (tR b W nw x)) : PE X (.BoolOp .Or [a] pos) (tOrr b W nw [x]) := PV.PE.imp (pe_one h) fun σ H Q ⟨H0, M, B, ρ, G, q⟩ => ⟨H0, M, B, ρ, G, by rw [evOr] at q; exact q⟩
theorem anC (h : PE X a (tR b W false x)) (h2 : PE X (.BoolOp .And (c :: rest) pos) (tAn b W nw (y :: ys))) : PE X (.BoolOp .And (a :: c :: rest) pos) (tAn b W nw (x :: y :: ys)) := by
  refine PV.PE.imp (pe_and h h2) fun σ H Q q => ?_
  obtain ⟨H0, M, B, ρ, G, q⟩ := q
  refine ⟨H0, M, B, ρ, G, ?_⟩
  rw [evAnd] at q
  cases h : evE b.pg b.C x ρ with
  | bad => rw [h] at q; exact q
  | exc c d ρ' => rw [h] at q; exact q
  | ok d ρ' =>
    rw [h] at q
    cases d with
    | bool i =>
      intro v H' k G' r
      refine ⟨i, r.bl, ?_⟩
      cases i with
      | true => exact ⟨H0, M, B, ρ', G', aftE.pre k q⟩
      | false => exact q _ H' k G' (RR.low rfl (by rw [Rep]))
    | _ => exact q.elim
theorem orC (h : PE X a (tR b W false x)) (h2 : PE X (.BoolOp .Or (c :: rest) pos) (tOrr b W nw (y :: ys))) : PE X (.BoolOp .Or (a :: c :: rest) pos) (tOrr b W nw (x :: y :: ys)) := by
  refine PV.PE.imp (pe_or h h2) fun σ H Q q => ?_
  obtain ⟨H0, M, B, ρ, G, q⟩ := q
  refine ⟨H0, M, B, ρ, G, ?_⟩
  rw [evOr] at q
  cases h : evE b.pg b.C x ρ with
  | bad => rw [h] at q; exact q
  | exc c d ρ' => rw [h] at q; exact q
  | ok d ρ' =>
    rw [h] at q
    cases d with
    | bool i =>
      intro v H' k G' r
      refine ⟨i, r.bl, ?_⟩
      cases i with
      | false => exact ⟨H0, M, B, ρ', G', aftE.pre k q⟩
      | true => exact q _ H' k G' (RR.low rfl (by rw [Rep]))
    | _ => exact q.elim
theorem eAnd (h : PE X a (tAn b W nw ys)) : PE X a (tR b W nw (.and ys)) := PV.PE.imp h fun σ H Q ⟨H0, M, B, ρ, G, q⟩ => ⟨H0, M, B, ρ, G, by rw [evE] at q; exact q⟩
theorem eOr (h : PE X a (tOrr b W nw ys)) : PE X a (tR b W nw (.or ys)) := PV.PE.imp h fun σ H Q ⟨H0, M, B, ρ, G, q⟩ => ⟨H0, M, B, ρ, G, by rw [evE] at q; exact q⟩
/-- .. as tests -/
def tAnT (b : Bd) (W : WX) (xs : List PV.X) : TT := fun σ H Q => ∃ H0 M B ρ, Stt b.g b.T b.ks H0 M B H σ ρ ∧ aftB b W H0 M B σ H Q (asBool (evAnd b.pg b.C xs ρ))
def tOrT (b : Bd) (W : WX) (xs : List PV.X) : TT := fun σ H Q => ∃ H0 M B ρ, Stt b.g b.T b.ks H0 M B H σ ρ ∧ aftB b W H0 M B σ H Q (asBool (evOr b.pg b.C xs ρ))
theorem aftB.pre {H0 H H1 : Hp} {M : Addr → Prop} {B : Lent} {σ : L2.St} {Q : Bool → Hp → Prop} {r : R Bool} (k : Kept H H1) (q : aftB b W H0 M B σ H Q r) : aftB b W H0 M B σ H1 Q r := by
  cases r with
  | bad => exact q
  | exc c d ρ' => exact fun cls dd H' k1 => q cls dd H' (k.trans k1)
  | ok d ρ' => exact fun H' k1 G' => q H' (k.trans k1) G'
theorem tan1 (h : PT X a (tT b W x)) : PW X (.BoolOp .And [a] pos) (tAnT b W [x]) := by
  refine ⟨fun wh pins s σ H Q I q => ?_⟩
  refine (pw_and1 h).run wh pins s σ H Q I ?_
  obtain ⟨H0, M, B, ρ, G, q⟩ := q
  exact ⟨H0, M, B, ρ, G, by rw [evAnd] at q; exact q⟩
theorem tor1 (h : PT X a (tT b W x)) : PW X (.BoolOp .Or [a] pos) (tOrT b W [x]) := by
  refine ⟨fun wh pins s σ H Q I q => ?_⟩
  refine (pw_or1 h).run wh pins s σ H Q I ?_
  obtain ⟨H0, M, B, ρ, G, q⟩ := q
  exact ⟨H0, M, B, ρ, G, by rw [evOr] at q; exact q⟩
theorem tanC (h : PT X a (tT b W x)) (h2 : PW X (.BoolOp .And (c :: rest) pos) (tAnT b W (y :: ys))) : PW X (.BoolOp .And (a :: c :: rest) pos) (tAnT b W (x :: y :: ys)) := by
  refine ⟨fun wh pins s σ H Q I q => ?_⟩
  refine (pw_and h h2).run wh pins s σ H Q I ?_
  obtain ⟨H0, M, B, ρ, G, q⟩ := q
  refine ⟨H0, M, B, ρ, G, ?_⟩
  rw [evAnd] at q
  cases h : asBool (evE b.pg b.C x ρ) with
  | bad => rw [h] at q; exact q
  | exc c d ρ' => rw [h] at q; exact q
  | ok i ρ' =>
    rw [h] at q
    intro H' k G'
    cases i with
    | true => exact ⟨H0, M, B, ρ', G', aftB.pre k q⟩
    | false => exact q H' k G'
theorem torC (h : PT X a (tT b W x)) (h2 : PW X (.BoolOp .Or (c :: rest) pos) (tOrT b W (y :: ys))) : PW X (.BoolOp .Or (a :: c :: rest) pos) (tOrT b W (x :: y :: ys)) := by
  refine ⟨fun wh pins s σ H Q I q => ?_⟩
  refine (pw_or h h2).run wh pins s σ H Q I ?_
  obtain ⟨H0, M, B, ρ, G, q⟩ := q
  refine ⟨H0, M, B, ρ, G, ?_⟩
  rw [evOr] at q
  cases h : asBool (evE b.pg b.C x ρ) with
  | bad => rw [h] at q; exact q
  | exc c d ρ' => rw [h] at q; exact q
  | ok i ρ' =>
    rw [h] at q
    intro H' k G'
    cases i with
    | true => exact q H' k G'
    | false => exact ⟨H0, M, B, ρ', G', aftB.pre k q⟩
theorem tAnd' (h : PW X a (tAnT b W ys)) : PT X a (tT b W (.and ys)) := PV.PT.imp h.pt fun σ H Q ⟨H0, M, B, ρ, G, q⟩ => ⟨H0, M, B, ρ, G, by rw [evE] at q; exact q⟩
theorem tOr' (h : PW X a (tOrT b W ys)) : PT X a (tT b W (.or ys)) := PV.PT.imp h.pt fun σ H Q ⟨H0, M, B, ρ, G, q⟩ => ⟨H0, M, B, ρ, G, by rw [evE] at q; exact q⟩
theorem eIf (hc : PT X c (tT b W z)) (ha : PE X a (tR b W nw x)) (hd : PE X d (tR b W nw y)) : PE X (.IfExp c a d pos) (tR b W nw (.ite z x y)) := by
  refine PV.PE.imp (pe_ifExp hc ha hd) fun σ H Q q => ?_
  obtain ⟨H0, M, B, ρ, G, q⟩ := q
  refine ⟨H0, M, B, ρ, G, ?_⟩
  rw [evE] at q
  cases h : asBool (evE b.pg b.C z ρ) with
  | bad => rw [h] at q; exact q
  | exc c d ρ' => rw [h] at q; exact q
  | ok i ρ' =>
    rw [h] at q
    intro H' k G'
    cases i with
    | true => exact ⟨H0, M, B, ρ', G', aftE.pre k q⟩
    | false => exact ⟨H0, M, B, ρ', G', aftE.pre k q⟩
/-- a comparison as a test -/
theorem tCm {o : Op} {op : CmpOp} (cn : Cn X b W) (ho : OpD X o true (compareOp op)) (ha : PE X a (tO b W x)) (hc : PE X c (tO b W y)) (hm : behindInMarks op c = false) : PT X (.Compare a [op] [c] pos) (tT b W (.op o [x, y])) := by
  refine PV.PT.imp (pt_cmpR ho ha hc hm) fun σ H Q q => ?_
  exact (op_R (nw := true) (T := fun σ H Q => tOp (fun x y => rL (wd X) o true [x, y]) (tO b W x) (tO b W y) σ H Q) (fun σ H Q q => by
    have := ops2 q
    rw [cn.g] at this
    exact this)) σ H _ (tT_E q)
theorem tIsN {j p'} (ha : PE X a (tO b W x)) : PT X (.Compare a [.Is] [.Constant .none j p'] pos) (tT b W (.op .isN [x])) := by
  refine PV.PT.imp (pt_cmp (pc_isN ha)) fun σ H Q q => ?_
  refine op_R (nw := true) (fun σ H Q q => ?_) σ H _ (tT_E q)
  refine imp_O (ops1 q) fun v H1 r => ?_
  obtain ⟨ds, z, hb, hp, k⟩ := r
  obtain ⟨d, rfl⟩ := only1P (.inl rfl) hp
  obtain ⟨x1, ex, h1⟩ := arg1 hb rfl
  cases ex
  show Q (.bl (decide (v = .non))) H1
  rw [h1.isN]
  cases hp
  exact k _ _ (same_refl H1) .bl
theorem tNotN' {j p'} (ha : PE X a (tO b W x)) : PT X (.Compare a [.IsNot] [.Constant .none j p'] pos) (tT b W (.op .notN [x])) := by
  refine PV.PT.imp (pt_cmp (pc_notN ha)) fun σ H Q q => ?_
  refine op_R (nw := true) (fun σ H Q q => ?_) σ H _ (tT_E q)
  refine imp_O (ops1 q) fun v H1 r => ?_
  obtain ⟨ds, z, hb, hp, k⟩ := r
  obtain ⟨d, rfl⟩ := only1P (.inr rfl) hp
  obtain ⟨x1, ex, h1⟩ := arg1 hb rfl
  cases ex
  show Q (.bl (!decide (v = .non))) H1
  rw [h1.isN]
  cases hp
  exact k _ _ (same_refl H1) .bl
end
end PV

set_option maxHeartbeats 4000000
/-! PV7: displays, methods, comprehensions. -/
namespace PV
open PySem L2

section
variable {X : Cx} {b : Bd} {W : WX} {a c d e : Expr} {es : List Expr} {pos : Pos} {nw : Bool} {x y z : PV.X} {xs : List PV.X}

/-- what is wanted behind values in a row -/
def aftL (b : Bd) (W : WX) (H0 : Hp) (M : Addr → Prop) (B : Lent) (σ : L2.St) (H : Hp) (Q : List V → Hp → Prop) (r : R (List D)) : Prop :=
  match r with
  | .ok ds ρ' => ∀ vs H', Kept H H' → Stt b.g b.T b.ks H0 M B H' σ ρ' → Reps b.g H' ds vs → Q vs H'
  | .exc c d ρ' => ∀ cls dd H', Kept H H' → Stt b.g b.T b.ks H0 M B H' σ ρ' → ExR b.g b.EC H' c d cls dd → W cls dd σ H'
  | .bad => False
theorem aftL.pre {H0 H H1 : Hp} {M : Addr → Prop} {B : Lent} {σ : L2.St} {Q : List V → Hp → Prop} {r : R (List D)} (k : Kept H H1) (q : aftL b W H0 M B σ H Q r) : aftL b W H0 M B σ H1 Q r := by
  cases r with
  | bad => exact q
  | exc c d ρ' => exact fun cls dd H' k1 => q cls dd H' (k.trans k1)
  | ok d ρ' => exact fun vs H' k1 G' r => q vs H' (k.trans k1) G' r
theorem vNil : PA X [] (tEs b W []) := PV.PA.imp pa_nil fun σ H Q ⟨H0, M, B, ρ, G, q⟩ => by
  have q : aftL b W H0 M B σ H Q (evEs b.pg b.C [] ρ) := q
  rw [evEs] at q
  exact q [] H (Kept.refl H) G .nil
theorem vCons (ha : PE X e (tR b W false x)) (hs : PA X es (tEs b W xs)) (h : noStar e = true := by rfl) : PA X (e :: es) (tEs b W (x :: xs)) := by
  refine PV.PA.imp (pa_cons ha hs (star_cons h es X.env)) fun σ H Q q => ?_
  obtain ⟨H0, M, B, ρ, G, q⟩ := q
  have q : aftL b W H0 M B σ H Q (evEs b.pg b.C (x :: xs) ρ) := q
  rw [evEs] at q
  refine ⟨H0, M, B, ρ, G, ?_⟩
  cases h1 : evE b.pg b.C x ρ with
  | bad => rw [h1] at q; exact q
  | exc c d ρ' => rw [h1] at q; exact q
  | ok d ρ1 =>
    rw [h1] at q
    intro v H1 k1 G1 r1
    refine ⟨H0, M, B, ρ1, G1, ?_⟩
    have q : aftL b W H0 M B σ H Q ((evEs b.pg b.C xs ρ1).bind fun ds ρ2 => .ok (d :: ds) ρ2) := q
    cases h2 : evEs b.pg b.C xs ρ1 with
    | bad => rw [h2] at q; exact q
    | exc c d ρ' => rw [h2] at q; exact fun cls dd H' k => q cls dd H' (k1.trans k)
    | ok ds ρ2 =>
      rw [h2] at q
      exact fun vs H2 k2 G2 r2 => q (v :: vs) H2 (k1.trans k2) G2 (.cons (Rep.mono k2 d r1.old) r2)
theorem RR.newTop {H0 H H1 H2 : Hp} {M : Addr → Prop} {B : Lent} {σ : L2.St} {ρ : Rho} {d : D} {p : Addr} (k : Kept H H1) (G1 : Stt b.g b.T b.ks H0 M B H1 σ ρ) (np : H1 p = none) (t : Top b.g H2 p d) : RR b true H0 M B H σ H2 ρ d (.ref p) := by
  unfold RR
  rw [t.isTop]
  exact ⟨p, rfl, ⟨(NF.of_none np).pre k, fun ⟨i, e, h1, h2, h3⟩ => G1.ap_new np i e h1 h2 h3, G1.nb_new np, G1.new0 np⟩, t⟩
theorem eTup {k} (h : PA X es (tEs b W xs)) : PE X (.Tuple es k pos) (tR b W nw (.tup xs)) := by
  refine PV.PE.imp (pe_tup h) fun σ H Q q => ?_
  obtain ⟨H0, M, B, ρ, G, q⟩ := q
  rw [evE] at q
  refine ⟨H0, M, B, ρ, G, ?_⟩
  cases h2 : evEs b.pg b.C xs ρ with
  | bad => rw [h2] at q; exact q
  | exc c d ρ' => rw [h2] at q; exact q
  | ok ds ρ1 =>
    rw [h2] at q
    intro vs H1 k1 G1 r1
    cases hf : fitsLn ds.length with
    | false => simp only [R.bind, hf] at q; exact q.elim
    | true =>
      simp only [R.bind, hf, if_true] at q
      refine ⟨by rw [r1.length]; exact fitsLn_le hf, fun p np => ?_⟩
      refine q _ _ (k1.trans (Kept.new np)) (G1.same (same_new np)) (RR.low rfl ?_)
      rw [Rep]
      exact ⟨p, vs, rfl, .inl (.inl upd_same), Reps.mono (Kept.new np) ds r1⟩
theorem eLst (h : PA X es (tEs b W xs)) : PE X (.List es pos) (tR b W true (.lst xs)) := by
  refine PV.PE.imp (pe_lst h) fun σ H Q q => ?_
  obtain ⟨H0, M, B, ρ, G, q⟩ := q
  rw [evE] at q
  refine ⟨H0, M, B, ρ, G, ?_⟩
  cases h2 : evEs b.pg b.C xs ρ with
  | bad => rw [h2] at q; exact q
  | exc c d ρ' => rw [h2] at q; exact q
  | ok ds ρ1 =>
    rw [h2] at q
    intro vs H1 k1 G1 r1
    cases hf : fitsLn ds.length with
    | false => simp only [R.bind, hf] at q; exact q.elim
    | true =>
      simp only [R.bind, hf, if_true] at q
      refine ⟨by rw [r1.length]; exact fitsLn_le hf, fun p np => ?_⟩
      refine q _ _ (k1.trans (Kept.new np)) (G1.same (same_new np)) (RR.newTop k1 G1 np ?_)
      exact ⟨vs, upd_same, Reps.mono (Kept.new np) ds r1⟩
/-- {} -/
theorem eDic : PE X (.Dict [] [] pos) (tR b W true (.dic [] [])) := by
  refine PV.PE.imp pe_dnewK fun σ H Q q => ?_
  obtain ⟨H0, M, B, ρ, G, q⟩ := q
  rw [evE] at q
  intro p np
  refine q _ _ (Kept.new np) (G.same (same_new np)) (RR.newTop (Kept.refl H) G np ?_)
  exact ⟨_, [], upd_same, .inl ⟨[], rfl, rfl⟩, by rw [RepKs]⟩
/-- a op b op c -/
theorem eCh {o o' : Op} {op op' : CmpOp} (cn : Cn X b W) (ho : OpD X o true (compareOp op)) (ho' : OpD X o' true (compareOp op')) (ha : PE X a (tR b W false x)) (hc : PE X c (tR b W false y)) (hd : PE X d (tR b W false z))
    (hm : lastMarks [op, op'] [c, d] = false := by with_unfolding_all rfl) : PE X (.Compare a [op, op'] [c, d] pos) (tR b W nw (.chain o o' x y z)) := by
  refine PV.PE.imp (pe_chain ho ho' ha hc hd hm) fun σ H Q q => ?_
  obtain ⟨H0, M, B, ρ, G, q⟩ := q
  rw [evE] at q
  refine ⟨H0, M, B, ρ, G, ?_⟩
  cases h1 : evE b.pg b.C x ρ with
  | bad => rw [h1] at q; exact q
  | exc c d ρ' => rw [h1] at q; exact q
  | ok dx ρ1 =>
    rw [h1] at q
    intro v H1 k1 G1 r1
    refine ⟨H0, M, B, ρ1, G1, ?_⟩
    simp only [R.bind] at q
    cases h2 : evE b.pg b.C y ρ1 with
    | bad => rw [h2] at q; exact q
    | exc c d ρ' => rw [h2] at q; exact fun cls dd H' k => q cls dd H' (k1.trans k)
    | ok dy ρ2 =>
      rw [h2] at q
      simp only at q
      intro u H2 k2 G2 r2
      cases hp : prim o [dx, dy] with
      | none => simp only [hp] at q; exact q.elim
      | some w =>
        refine ⟨[dx, dy], w, ⟨v, [u], rfl, .inl (by rw [← cn.g]; exact Rep.mono k2 dx r1.old), u, [], rfl, .inl (by rw [← cn.g]; exact r2.old), rfl⟩, hp, fun w' H3 s3 rw' => ?_⟩
        cases w with
        | bool i =>
          have ew : w' = .bl i := by
            have r : Rep (wd X) H3 (.bool i) w' := rw'
            rw [Rep] at r; exact r
          refine ⟨i, ew, ?_⟩
          have k3 : Kept H2 H3 := Kept.of_same s3
          have G3 := G2.same s3
          cases i with
          | false =>
            simp only [hp] at q
            exact q _ _ (k1.trans (k2.trans k3)) G3 (RR.low rfl (by rw [Rep]))
          | true =>
            rw [if_pos rfl]
            simp only [hp] at q
            refine ⟨H0, M, B, ρ2, G3, ?_⟩
            cases h3 : evE b.pg b.C z ρ2 with
            | bad => rw [h3] at q; exact q
            | exc c d ρ' => rw [h3] at q; exact fun cls dd H' k => q cls dd H' (k1.trans (k2.trans (k3.trans k)))
            | ok dz ρ3 =>
              rw [h3] at q
              simp only at q
              intro t H4 k4 G4 r4
              cases hp2 : prim o' [dy, dz] with
              | none => simp only [hp2] at q; exact q.elim
              | some w2 =>
                refine ⟨[dy, dz], w2, ⟨u, [t], rfl, .inl (by rw [← cn.g]; exact Rep.mono (k3.trans k4) dy r2.old), t, [], rfl, .inl (by rw [← cn.g]; exact r4.old), rfl⟩, hp2, fun w3 H5 s5 rw3 => ?_⟩
                cases w2 with
                | bool j =>
                  simp only [hp2] at q
                  have r : Rep (wd X) H5 (.bool j) w3 := rw3
                  refine q _ _ (k1.trans (k2.trans (k3.trans (k4.trans (Kept.of_same s5))))) (G4.same s5) (RR.low rfl (by rw [cn.g]; exact r))
                | _ => simp only [hp2] at q; exact q.elim
        | _ => simp only [hp] at q; exact q.elim

/-! ### methods that change their list -/
/-- what is asked of values -/
def rM (g : Wd) (m : Mo) : V → List V → Hp → VK → Prop := fun x vs H Q => ∃ p d ds rv d', x = .ref p ∧ Top g H p d ∧ Reps g H ds vs ∧ meth m d ds = some (rv, d') ∧ ∀ v ob, Rep g (upd H p ob) rv v → Top g (upd H p ob) p d' → Q v (upd H p ob)
theorem Reps.one {g : Wd} {H : Hp} {d : D} {vs : List V} (h : Reps g H [d] vs) : ∃ v, vs = [v] ∧ Rep g H d v := by
  rw [Reps] at h
  obtain ⟨v, r, rfl, h1, h2⟩ := h
  rw [Reps] at h2
  exact ⟨v, by rw [h2], h1⟩
theorem Reps.two {g : Wd} {H : Hp} {d e : D} {vs : List V} (h : Reps g H [d, e] vs) : ∃ v w, vs = [v, w] ∧ Rep g H d v ∧ Rep g H e w := by
  rw [Reps] at h
  obtain ⟨v, r, rfl, h1, h2⟩ := h
  obtain ⟨w, rfl, h3⟩ := h2.one
  exact ⟨v, w, rfl, h1, h3⟩
theorem noM {P : Prop} {z : D × D} (h : (none : Option (D × D)) = some z) : P := nomatch h
theorem mm_append : MtM X "list.append" (rM (wd X) .append) := by
  intro pins s σ H x vs v us Q I rx rv h
  obtain ⟨p, d, ds, r, d', rfl, t, rs, hm, k⟩ := h
  cases d <;> try (exact noM hm)
  rename_i es
  match ds, rs, hm with
  | [], _, hm => exact noM hm
  | _ :: _ :: _, _, hm => exact noM hm
  | [y], rs, hm =>
    have hm : (if es.length < sizeLine then some (PyData.none, PyData.list (es ++ [y])) else none) = some (r, d') := hm
    by_cases c : es.length < sizeLine
    · rw [if_pos c] at hm
      cases hm
      obtain ⟨w, rfl, r1⟩ := rs.one
      obtain ⟨vs, e, r2⟩ := t
      have kk : Kept H (upd H p (.lst (vs ++ [w]))) := Kept.put (by rw [e]; trivial)
      refine mt_append pins s σ H _ _ _ _ _ I rx rv ⟨p, vs, w, rfl, rfl, e, by rw [r2.length]; exact c, k _ _ (by rw [Rep]) ?_⟩
      exact ⟨_, upd_same, Reps.append (Reps.mono kk _ r2) (.cons (Rep.mono kk _ r1) .nil)⟩
    · rw [if_neg c] at hm; cases hm
theorem mm_insert : MtM X "list.insert" (rM (wd X) .insert) := by
  intro pins s σ H x vs v us Q I rx rv h
  obtain ⟨p, d, ds, r, d', rfl, t, rs, hm, k⟩ := h
  cases d <;> try (exact noM hm)
  rename_i es
  match ds, rs, hm with
  | [], _, hm => exact noM hm
  | [y], _, hm => exact noM (by cases y <;> exact hm)
  | y :: _ :: _ :: _, _, hm => exact noM (by cases y <;> exact hm)
  | [y, w], rs, hm =>
    cases y <;> try (exact noM hm)
    rename_i i
    have hm : (if (decide (0 ≤ i) && decide (i ≤ es.length) && decide (es.length < sizeLine)) = true then some (PyData.none, PyData.list (es.take i.toNat ++ w :: es.drop i.toNat)) else none) = some (r, d') := hm
    by_cases c : (decide (0 ≤ i) && decide (i ≤ es.length) && decide (es.length < sizeLine)) = true
    · rw [if_pos c] at hm
      cases hm
      simp only [Bool.and_eq_true, decide_eq_true_eq] at c
      obtain ⟨v1, v2, rfl, r1, r2⟩ := rs.two
      have e1 : v1 = .int i := by rw [Rep] at r1; exact r1
      subst e1
      obtain ⟨vs, e, r3⟩ := t
      have hl := r3.length
      have sz := sizeLine_eq
      have kk : Kept H (upd H p (.lst (vs.take i.toNat ++ [v2] ++ vs.drop i.toNat))) := Kept.put (by rw [e]; trivial)
      refine mt_insert pins s σ H _ _ _ _ _ I rx rv ⟨p, vs, i, v2, rfl, rfl, e, by omega, c.1.1, by omega, k _ _ (by rw [Rep]) ?_⟩
      refine ⟨_, upd_same, ?_⟩
      have r4 := Reps.mono kk _ r3
      have r5 := Reps.append (Reps.take i.toNat r4) (.cons (Rep.mono kk _ r2) (Reps.drop i.toNat r4))
      have e5 : vs.take i.toNat ++ v2 :: vs.drop i.toNat = vs.take i.toNat ++ [v2] ++ vs.drop i.toNat := by rw [List.append_assoc]; rfl
      rw [e5] at r5
      exact r5
    · rw [if_neg c] at hm; cases hm
theorem mm_pop1 : MtM X "list.pop" (rM (wd X) .pop1) := by
  intro pins s σ H x vs v us Q I rx rv h
  obtain ⟨p, d, ds, r, d', rfl, t, rs, hm, k⟩ := h
  cases d <;> try (exact noM hm)
  rename_i es
  match ds, rs, hm with
  | [], _, hm => exact noM hm
  | y :: _ :: _, _, hm => exact noM (by cases y <;> exact hm)
  | [y], rs, hm =>
    cases y <;> try (exact noM hm)
    rename_i i
    have hm : (if (decide (0 ≤ i) && decide (i < 2 ^ 63)) = true then (es[i.toNat]?).map (fun x => (x, PyData.list (es.eraseIdx i.toNat))) else none) = some (r, d') := hm
    by_cases c : (decide (0 ≤ i) && decide (i < 2 ^ 63)) = true
    · rw [if_pos c] at hm
      simp only [Bool.and_eq_true, decide_eq_true_eq] at c
      obtain ⟨w, e0, e1⟩ := Option.map_eq_some_iff.mp hm
      cases e1
      obtain ⟨v1, rfl, r1⟩ := rs.one
      have e1 : v1 = .int i := by rw [Rep] at r1; exact r1
      subst e1
      obtain ⟨vs, e, r3⟩ := t
      obtain ⟨u, eu, ru⟩ := r3.getD e0
      have hlt : i.toNat < vs.length := (List.getElem?_eq_some_iff.mp eu).1
      have sq : seqIndex? i vs.length = some i.toNat := by
        unfold seqIndex?
        have : ¬ i < 0 := by omega
        simp only [this, if_false]
        rw [if_pos]
        rw [Bool.and_eq_true, decide_eq_true_eq, decide_eq_true_eq]
        omega
      have kk : Kept H (upd H p (.lst (vs.eraseIdx i.toNat))) := Kept.put (by rw [e]; trivial)
      refine mt_popAt pins s σ H _ _ _ _ _ I rx rv ⟨p, vs, i, i.toNat, u, rfl, rfl, e, by omega, c.2, sq, eu, k _ _ (Rep.mono kk _ ru) ?_⟩
      exact ⟨_, upd_same, Reps.eraseIdx _ (Reps.mono kk _ r3)⟩
    · rw [if_neg c] at hm; cases hm
theorem mm_pop0 : MtM X "list.pop" (rM (wd X) .pop0) := by
  intro pins s σ H x vs v us Q I rx rv h
  obtain ⟨p, d, ds, r, d', rfl, t, rs, hm, k⟩ := h
  cases d <;> try (exact noM hm)
  rename_i es
  match ds, rs, hm with
  | _ :: _, _, hm => exact noM hm
  | [], rs, hm =>
    have hm : (es[es.length - 1]?).map (fun x => (x, PyData.list es.dropLast)) = some (r, d') := hm
    obtain ⟨w, e0, e1⟩ := Option.map_eq_some_iff.mp hm
    cases e1
    rw [Reps] at rs
    subst rs
    obtain ⟨vs, e, r3⟩ := t
    obtain ⟨u, eu, ru⟩ := r3.getD e0
    have kk : Kept H (upd H p (.lst vs.dropLast)) := Kept.put (by rw [e]; trivial)
    refine mt_pop pins s σ H _ _ _ _ _ I rx rv ⟨p, vs, u, rfl, rfl, e, by rw [r3.length]; exact eu, k _ _ (Rep.mono kk _ ru) ?_⟩
    have e3 : vs.dropLast = vs.take (es.length - 1) := by rw [List.dropLast_eq_take, r3.length]
    have e4 : es.dropLast = es.take (es.length - 1) := List.dropLast_eq_take
    refine ⟨vs.dropLast, upd_same, ?_⟩
    have r5 := Reps.take (es.length - 1) (Reps.mono kk _ r3)
    rw [← e3, ← e4] at r5
    exact r5
theorem mm_reverse : MtM X "list.reverse" (rM (wd X) .reverse) := by
  intro pins s σ H x vs v us Q I rx rv h
  obtain ⟨p, d, ds, r, d', rfl, t, rs, hm, k⟩ := h
  cases d <;> try (exact noM hm)
  rename_i es
  match ds, rs, hm with
  | _ :: _, _, hm => exact noM hm
  | [], rs, hm =>
    cases hm
    rw [Reps] at rs
    subst rs
    obtain ⟨vs, e, r3⟩ := t
    have kk : Kept H (upd H p (.lst vs.reverse)) := Kept.put (by rw [e]; trivial)
    refine mt_reverse pins s σ H _ _ _ _ _ I rx rv ⟨p, vs, rfl, rfl, e, k _ _ (by rw [Rep]) ?_⟩
    exact ⟨_, upd_same, Reps.reverse (Reps.mono kk _ r3)⟩
/-- a method's reading -/
theorem mm_core {m : Mo} {i : Nat} {σ : L2.St} {H : Hp} {Q : VK} (cn : Cn X b W) (hk : isOwn b.ks[i]? = true) (q : tR b W false (.mm m i xs) σ H Q) :
    ∃ p, σ[i]? = some (some (.ref p)) ∧ (∃ vs, H p = some (.lst vs)) ∧ tEs b W xs σ H fun vs H1 => rM (wd X) m (.ref p) vs H1 Q := by
  obtain ⟨H0, M, B, ρ, G, q⟩ := q
  rw [evE] at q
  split at q
  · rename_i es e
    obtain ⟨p, e2, t, _⟩ := G.own i _ e hk
    refine ⟨p, e2, (let ⟨vs, h, _⟩ := t; ⟨vs, h⟩), H0, M, B, ρ, G, ?_⟩
    cases h1 : evEs b.pg b.C xs ρ with
    | bad => rw [h1] at q; exact q
    | exc c d ρ' => rw [h1] at q; exact q
    | ok ds ρ1 =>
      rw [h1] at q
      intro vs H1 k1 G1 r1
      simp only [R.bind] at q
      split at q
      · rename_i d e3
        obtain ⟨p', e4, t1, _⟩ := G1.own i d e3 hk
        rw [e2] at e4
        cases e4
        split at q
        · rename_i r d' hm
          refine ⟨p, d, ds, r, d', rfl, by rw [← cn.g]; exact t1, by rw [← cn.g]; exact r1, hm, fun v ob rv t2 => ?_⟩
          rw [← cn.g] at rv t2
          exact q v _ (k1.trans (Kept.put t1.mut)) (G1.write e3 hk e2 t2) (RR.of rv)
        · exact q.elim
      · exact q.elim
  · exact q.elim
/-- x.m(e, ..), x one's own list -/
theorem eMm {m : Mo} {i : Nat} {id : String} {name x : Str} {p1 apos : Pos} (cn : Cn X b W) (hk : isOwn b.ks[i]? = true) (slot : PySem.Slot "list" name id) (hty : typeOf (.builtin id) = pure (.type "method_descriptor")) (hm : MtM X id (rM (wd X) m))
    (hv : PE X (.Name x p1) (tVar i)) (ha : PA X (e :: es) (tEs b W xs)) (hstar : starEach (e :: es) X.env = (false, eval e X.env) :: starEach es X.env := by rfl)
    (hfew : ((backTo pos (starEach (e :: es) X.env)).all (fun x => !x.1) && (backToKw pos (keywordEach [] X.env)).all (fun x => x.1.isSome) && decide ((e :: es).length + ([] : List Keyword).length + (if ([] : List Keyword).isEmpty then 0 else 1) < 30)) = true := by rfl)
    (hline : (apos.endLine == pos.line) = true := by rfl) (hplain : (backTo pos (starEach es X.env)).any (·.1) = false := by rfl) :
    PE X (.Call (.Attribute (.Name x p1) name apos) (e :: es) [] pos) (tR b W false (.mm m i xs)) := by
  refine PV.PE.imp (pe_bm PySem.F.plainAttrs_list slot hty hm hv ha (by rfl) hfew hline hstar hplain) fun σ H Q q => ?_
  obtain ⟨p, e1, ⟨vs, e2⟩, q⟩ := mm_core cn hk q
  exact ⟨_, e1, .inl ⟨rfl, vs, SqL.of e2⟩, q⟩
/-- x.m() -/
theorem eMm0 {m : Mo} {i : Nat} {id : String} {name x : Str} {p1 apos : Pos} (cn : Cn X b W) (hk : isOwn b.ks[i]? = true) (slot : PySem.Slot "list" name id) (hty : typeOf (.builtin id) = pure (.type "method_descriptor")) (hm : MtM X id (rM (wd X) m))
    (hv : PE X (.Name x p1) (tVar i)) (hline : (apos.endLine == pos.line) = true := by rfl) :
    PE X (.Call (.Attribute (.Name x p1) name apos) [] [] pos) (tR b W false (.mm m i [])) := by
  refine PV.PE.imp (pe_bm0 PySem.F.plainAttrs_list slot hty hm hv (by rfl) hline) fun σ H Q q => ?_
  obtain ⟨p, e1, ⟨vs, e2⟩, q⟩ := mm_core cn hk q
  refine ⟨_, e1, .inl ⟨rfl, vs, SqL.of e2⟩, ?_⟩
  obtain ⟨H0, M, B, ρ, G, q⟩ := q
  have q : aftL b W H0 M B σ H (fun vs H1 => rM (wd X) m (.ref p) vs H1 Q) (evEs b.pg b.C [] ρ) := q
  rw [evEs] at q
  exact q [] H (Kept.refl H) G .nil
end
end PV

set_option maxHeartbeats 4000000
/-! PV8: what loops walk; comprehensions. -/
namespace PV
open PySem L2

/-- J walks the items while what stood at H1 stays (but at N, and the tables) -/
structure Wk (g : Wd) (N : Addr → Prop) (H1 : Hp) (J : It) (items : List D) : Prop where
  go : ∀ (i : Nat) (H : Hp) (d : D), Kept H1 H → (∀ a o, H1 a = some o → ¬ N a → (∀ ps, o ≠ .tbl ps) → H a = some o) → items[i]? = some d → J.go i H ∧ ∀ x H', J.yld i H x H' → Same H H' ∧ Rep g H' d x
  stop : ∀ (i : Nat) (H : Hp), Kept H1 H → (∀ a o, H1 a = some o → ¬ N a → (∀ ps, o ≠ .tbl ps) → H a = some o) → items.length ≤ i → J.stop i H

/-- what an operand's value is -/
def OpOf : List PV.X → List O → Prop
  | [], [] => True
  | x :: xs, o :: os => (match x with
    | .own i => o = .inr i
    | .bor i => o = .inr i
    | _ => ∃ d, o = .inl d) ∧ OpOf xs os
  | _, _ => False
theorem op_shape {pg : Pg} {C : Orc} : ∀ {xs : List PV.X} {ρ ρ1 : Rho} {os : List O}, evOs pg C xs ρ = .ok os ρ1 → OpOf xs os
  | [], ρ, ρ1, os, h => by
    rw [evOs] at h
    cases h
    exact True.intro
  | x :: xs, ρ, ρ1, os, h => by
    have place : ∀ i, (match ρ[i]? with
        | some (some _) => (evOs pg C xs ρ).bind fun os ρ1 => R.ok (Sum.inr i :: os) ρ1
        | _ => R.bad) = R.ok os ρ1 → ∃ r, os = .inr i :: r ∧ OpOf xs r := fun i h => by
      split at h
      · cases q : evOs pg C xs ρ with
        | bad => rw [q] at h; cases h
        | exc _ _ _ => rw [q] at h; cases h
        | ok r ρ2 => rw [q] at h; cases h; exact ⟨r, rfl, op_shape q⟩
      · cases h
    cases hp : isPlace x with
    | true =>
      cases x with
      | own i => rw [evOs] at h; obtain ⟨r, rfl, s⟩ := place i h; exact ⟨rfl, s⟩
      | bor i => rw [evOs] at h; obtain ⟨r, rfl, s⟩ := place i h; exact ⟨rfl, s⟩
      | _ => cases hp
    | false =>
      rw [evOs_val hp] at h
      cases q1 : evE pg C x ρ with
      | bad => rw [q1] at h; cases h
      | exc _ _ _ => rw [q1] at h; cases h
      | ok d ρ2 =>
        rw [q1] at h
        have h : (evOs pg C xs ρ2).bind (fun os ρ3 => R.ok (Sum.inl d :: os) ρ3) = R.ok os ρ1 := h
        cases q : evOs pg C xs ρ2 with
        | bad => rw [q] at h; cases h
        | exc _ _ _ => rw [q] at h; cases h
        | ok r ρ3 =>
          rw [q] at h
          cases h
          refine ⟨?_, op_shape q⟩
          cases x <;> first | exact ⟨d, rfl⟩ | cases hp

section
variable {X : Cx} {b : Bd} {W : WX} {tg : Expr} {xs : List PV.X} {x y : PV.X} {pos : Pos}
/-- held while a loop runs: frozen, or outside of N -/
def Held (g : Wd) (N : Addr → Prop) (H : Hp) (d : D) (v : V) : Prop := Rep g H d v ∨ ∃ p, v = .ref p ∧ Top g H p d ∧ ¬ N p
/-- what a loop may walk: a value; a slot of one's own that is lent meanwhile; a lent slot -/
def safeSrc (ks : List Kd) (l : Option Nat) : PV.X → Bool
  | .own i => decide (l = some i)
  | .bor i => decide (ks[i]? = some .bor)
  | _ => true
theorem hide_none {ρ : Rho} {l : Option Nat} {i : Nat} {d : D} (h : (hide ρ l)[i]? = some (some d)) : ρ[i]? = some (some d) ∧ l ≠ some i := by
  cases l with
  | none => exact ⟨h, fun z => nomatch z⟩
  | some j =>
    obtain ⟨h1, h2⟩ := set_none h
    exact ⟨h1, fun z => h2 (Option.some.inj z).symm⟩
theorem hide_len {ρ : Rho} {l : Option Nat} : (hide ρ l).length = ρ.length := by cases l <;> first | rfl | exact List.length_set
theorem held_of {g : Wd} {T : List (Addr × Str)} {ks : List Kd} {H0 H : Hp} {M : Addr → Prop} {B : Lent} {σ : L2.St} {ρ : Rho} (G : Stt g T ks H0 M B H σ ρ) {l : Option Nat} {x : PV.X} {o : O} {os : List O} {xs : List PV.X} {v : V} {d : D} (hs : OpOf (x :: xs) (o :: os)) (sf : safeSrc ks l x = true)
    (r : RepO g H σ o v) (e : seeO ρ o = some d) : Held g (OwnAt ks σ (hide ρ l)) H d v := by
  have val : ∀ d', o = .inl d' → Held g (OwnAt ks σ (hide ρ l)) H d v := fun d' eo => by
    subst eo
    have : d' = d := by simpa [seeO] using e
    subst this
    exact .inl r
  obtain ⟨h1, _⟩ := hs
  cases x with
  | own i =>
    have h1 : o = .inr i := h1
    subst h1
    have hl : l = some i := of_decide_eq_true sf
    have er := seeO_inr e
    have es : σ[i]? = some (some v) := r
    obtain ⟨k, hk⟩ := G.kinds i d er
    cases k with
    | val => obtain ⟨u, e2, r2⟩ := G.val i d er hk; rw [es] at e2; cases e2; exact .inl r2
    | bor =>
      obtain ⟨u, e2, b2⟩ := G.bor i d er hk
      rw [es] at e2; cases e2
      rcases G.bsl i d v b2 with r2 | ⟨p, e3, t, bp⟩
      · exact .inl r2
      · exact .inr ⟨p, e3, t, fun ⟨j, w, h1, h2, h3⟩ => (G.ownM p ⟨j, w, (hide_none h1).1, h2, h3⟩).2 bp⟩
    | own =>
      obtain ⟨p, e2, t, _⟩ := G.own i d er (by rw [hk]; rfl)
      rw [es] at e2; cases e2
      refine .inr ⟨p, rfl, t, fun ⟨j, w, h1, h2, h3⟩ => ?_⟩
      obtain ⟨h4, h5⟩ := hide_none h1
      exact G.apart i j d w p (fun z => h5 (by rw [hl, z])) er h4 (by rw [hk]; rfl) h2 es h3
    | inn =>
      obtain ⟨p, e2, t, _⟩ := G.own i d er (by rw [hk]; rfl)
      rw [es] at e2; cases e2
      refine .inr ⟨p, rfl, t, fun ⟨j, w, h1, h2, h3⟩ => ?_⟩
      obtain ⟨h4, h5⟩ := hide_none h1
      exact G.apart i j d w p (fun z => h5 (by rw [hl, z])) er h4 (by rw [hk]; rfl) h2 es h3
  | bor i =>
    have h1 : o = .inr i := h1
    subst h1
    have hk : ks[i]? = some .bor := of_decide_eq_true sf
    have er := seeO_inr e
    have es : σ[i]? = some (some v) := r
    obtain ⟨u, e2, b2⟩ := G.bor i d er hk
    rw [es] at e2; cases e2
    rcases G.bsl i d v b2 with r2 | ⟨p, e3, t, bp⟩
    · exact .inl r2
    · exact .inr ⟨p, e3, t, fun ⟨j, w, h1, h2, h3⟩ => (G.ownM p ⟨j, w, (hide_none h1).1, h2, h3⟩).2 bp⟩
  | _ => exact h1.elim val

/-- a source's reading: R is asked of all that walk its items -/
def tI (b : Bd) (W : WX) (sk : Sk) (xs : List PV.X) : TI := fun σ H R => ∃ H0 M B ρ, Stt b.g b.T b.ks H0 M B H σ ρ ∧
  match evOs b.pg b.C xs ρ with
  | .ok os ρ1 => ∃ ds items, see ρ1 os = some ds ∧ srcOf sk ds = some items ∧
      ∀ J H', Kept H H' → Stt b.g b.T b.ks H0 M B H' σ ρ1 → Wk b.g (OwnAt b.ks σ (hide ρ1 (lentOf xs))) H' J items → R J H'
  | .exc c d ρ' => ∀ cls dd H', Kept H H' → Stt b.g b.T b.ks H0 M B H' σ ρ' → ExR b.g b.EC H' c d cls dd → W cls dd σ H'
  | .bad => False

theorem wk_list {g : Wd} {N : Addr → Prop} {H1 : Hp} {a : Addr} {vs : List V} {ds : List D} (h : LsA g.K H1 a vs) (r : Reps g H1 ds vs) (hn : H1 a = some (.lst vs) → ¬ N a) : Wk g N H1 (Itl g.K a) ds := by
  have at_ : ∀ H, Kept H1 H → (∀ a o, H1 a = some o → ¬ N a → (∀ ps, o ≠ .tbl ps) → H a = some o) → SqL g.K H a vs := fun H k f => by
    rcases h with h | h
    · exact SqL.of (f a _ h (hn h) fun ps z => nomatch z)
    · exact (k.fzL h).sq
  refine ⟨fun i H d k f e => ?_, fun i H k f e => ⟨vs, at_ H k f, by rw [r.length]; exact e⟩⟩
  obtain ⟨v, ev, rv⟩ := r.getD e
  refine ⟨⟨vs, v, at_ H k f, ev⟩, fun x H' y => ?_⟩
  obtain ⟨rfl, y⟩ := y
  have := y vs (at_ H' k f)
  rw [ev] at this
  cases this
  exact ⟨same_refl _, Rep.mono k d rv⟩
theorem wk_tup {g : Wd} {N : Addr → Prop} {H1 : Hp} {a : Addr} {vs : List V} {ds : List D} (h : SqT g.K H1 a vs) (r : Reps g H1 ds vs) : Wk g N H1 (Itt g.K a) ds := by
  refine ⟨fun i H d k f e => ?_, fun i H k f e => ⟨vs, k.sqT h, by rw [r.length]; exact e⟩⟩
  obtain ⟨v, ev, rv⟩ := r.getD e
  refine ⟨⟨vs, v, k.sqT h, ev⟩, fun x H' y => ?_⟩
  obtain ⟨rfl, y⟩ := y
  have := y vs (k.sqT h)
  rw [ev] at this
  cases this
  exact ⟨same_refl _, Rep.mono k d rv⟩
theorem wk_rng {g : Wd} {N : Addr → Prop} {H1 : Hp} (lo : Int) (n : Nat) : Wk g N H1 (Itr lo n) ((List.range n).map fun (k : Nat) => PyData.int (lo + k)) := by
  refine ⟨fun i H d k f e => ?_, fun i H k f e => (show n ≤ i by simpa using e)⟩
  rw [List.getElem?_map] at e
  obtain ⟨j, hj, e2⟩ := Option.map_eq_some_iff.mp e
  have hlt : i < n := by
    have := (List.getElem?_eq_some_iff.mp hj).1
    simpa using this
  have ej : j = i := by
    rw [List.getElem?_range hlt] at hj
    exact (Option.some.inj hj).symm
  subst ej
  refine ⟨hlt, fun x H' y => ?_⟩
  obtain ⟨rfl, rfl⟩ := y
  exact ⟨same_refl _, by rw [← e2, Rep]⟩
theorem wk_str {g : Wd} {N : Addr → Prop} {H1 : Hp} (z : Str) : Wk g N H1 (Its z) (z.cps.toList.map fun c => PyData.str (oneSign c)) := by
  refine ⟨fun i H d k f e => ?_, fun i H k f e => (show z.cps.size ≤ i by simpa using e)⟩
  rw [List.getElem?_map] at e
  obtain ⟨j, hj, e2⟩ := Option.map_eq_some_iff.mp e
  rw [Array.getElem?_toList] at hj
  refine ⟨(Array.getElem?_eq_some_iff.mp hj).1, fun x H' y => ?_⟩
  obtain ⟨rfl, c, hc, rfl⟩ := y
  rw [hj] at hc
  cases hc
  exact ⟨same_refl _, by rw [← e2, Rep]; rfl⟩
theorem Held.lst {g : Wd} {N : Addr → Prop} {H : Hp} {ds : List D} {v : V} (h : Held g N H (.list ds) v) : ∃ a vs, v = .ref a ∧ LsA g.K H a vs ∧ Reps g H ds vs ∧ (H a = some (.lst vs) → ¬ N a ∨ FzL g.K H a vs) := by
  rcases h with h | ⟨p, e, t, n⟩
  · rw [Rep] at h
    obtain ⟨a, vs, e, f, r⟩ := h
    exact ⟨a, vs, e, .inr f, r, fun _ => .inr f⟩
  · obtain ⟨vs, e2, r⟩ := t
    exact ⟨p, vs, e, .inl e2, r, fun _ => .inl n⟩
theorem Held.wk {g : Wd} {N : Addr → Prop} {H : Hp} {ds : List D} {v : V} (h : Held g N H (.list ds) v) : ∃ a vs, v = .ref a ∧ SqL g.K H a vs ∧ Wk g N H (Itl g.K a) ds := by
  obtain ⟨a, vs, e, l, r, n⟩ := h.lst
  refine ⟨a, vs, e, l.sq, ?_⟩
  rcases l with l | l
  · rcases n l with n | n
    · exact wk_list (.inl l) r fun _ => n
    · have w := wk_list (N := N) (.inr n : LsA g.K H a vs) r
      refine ⟨fun i H' d k f e => ?_, fun i H' k f e => ⟨vs, (k.fzL n).sq, by rw [r.length]; exact e⟩⟩
      obtain ⟨w2, ev, rv⟩ := r.getD e
      refine ⟨⟨vs, w2, (k.fzL n).sq, ev⟩, fun x H' y => ?_⟩
      obtain ⟨rfl, y⟩ := y
      have := y vs (k.fzL n).sq
      rw [ev] at this
      cases this
      exact ⟨same_refl _, Rep.mono k d rv⟩
  · refine ⟨fun i H' d k f e => ?_, fun i H' k f e => ⟨vs, (k.fzL l).sq, by rw [r.length]; exact e⟩⟩
    obtain ⟨w2, ev, rv⟩ := r.getD e
    refine ⟨⟨vs, w2, (k.fzL l).sq, ev⟩, fun x H' y => ?_⟩
    obtain ⟨rfl, y⟩ := y
    have := y vs (k.fzL l).sq
    rw [ev] at this
    cases this
    exact ⟨same_refl _, Rep.mono k d rv⟩
theorem Held.tup {g : Wd} {N : Addr → Prop} {H : Hp} {ds : List D} {v : V} (h : Held g N H (.tuple ds) v) : ∃ a vs, v = .ref a ∧ SqT g.K H a vs ∧ Reps g H ds vs := by
  rcases h with h | ⟨p, e, t, n⟩
  · rw [Rep] at h; exact h
  · exact t.elim
/-- the reading of one operand, of a source that is there -/
theorem tI_one {sk : Sk} {σ : L2.St} {H : Hp} {R : It → Hp → Prop} (sf : safeSrc b.ks (lentOf [x]) x = true) (h : tI b W sk [x] σ H R) :
    (∃ d items, srcOf sk [d] = some items ∧ tO b W x σ H fun v H1 => ∃ N, Held b.g N H1 d v ∧ ∀ J H', Same H1 H' → Wk b.g N H' J items → R J H') ∨ tO b W x σ H fun _ _ => False := by
  obtain ⟨H0, M, B, ρ, G, q⟩ := h
  cases he : evOs b.pg b.C [x] ρ with
  | bad => rw [he] at q; exact q.elim
  | exc c d ρ' =>
    rw [he] at q
    refine .inr ?_
    have : tOs b W [x] σ H fun _ _ => False := ⟨H0, M, B, ρ, G, by rw [he]; exact q⟩
    exact ops1 this
  | ok os ρ1 =>
    rw [he] at q
    obtain ⟨ds, items, hs, hi, k⟩ := q
    have sh := op_shape he
    match os, sh with
    | [], sh => exact sh.elim
    | _ :: _ :: _, sh => exact sh.2.elim
    | [o], sh =>
      cases q1 : seeO ρ1 o with
      | none => unfold see at hs; rw [q1] at hs; cases hs
      | some d =>
        have : ds = [d] := by
          unfold see at hs
          rw [q1] at hs
          have hs : some [d] = some ds := hs
          exact (Option.some.inj hs).symm
        subst this
        refine .inl ⟨d, items, hi, ?_⟩
        have : tOs b W [x] σ H fun vs H1 => ∃ v, vs = [v] ∧ ∃ N, Held b.g N H1 d v ∧ ∀ J H', Same H1 H' → Wk b.g N H' J items → R J H' := ⟨H0, M, B, ρ, G, by
          rw [he]
          intro vs H1 k1 G1 r1
          obtain ⟨v, t, rfl, r2, r3⟩ := r1
          have r3 : t = [] := r3
          subst r3
          exact ⟨v, rfl, _, held_of G1 sh sf r2 q1, fun J H' s w => k J H' (k1.trans (Kept.of_same s)) (G1.same s) w⟩⟩
        refine imp_O (ops1 this) fun v H1 ⟨w, ew, q⟩ => ?_
        cases ew
        exact q
/-- for x in e -/
theorem pEach {l : Expr} (cn : Cn X b W) (sf : safeSrc b.ks (lentOf [x]) x = true) (ha : PE X l (tO b W x)) : PI X tg l (tI b W .each [x]) := by
  refine ⟨fun pins s σ H R I h => ?_⟩
  rcases tI_one sf h with ⟨d, items, hi, q⟩ | q
  · cases d with
    | list ds =>
      cases hi
      refine (pi_list ha).run pins s σ H R I (imp_O q fun v H1 ⟨N, h, k⟩ => ?_)
      obtain ⟨a, vs, rfl, sq, w⟩ := h.wk
      rw [cn.g] at sq w
      exact ⟨a, rfl, ⟨vs, sq⟩, k _ _ (same_refl _) (by rw [cn.g]; exact w)⟩
    | tuple ds =>
      cases hi
      refine (pi_tup ha).run pins s σ H R I (imp_O q fun v H1 ⟨N, h, k⟩ => ?_)
      obtain ⟨a, vs, rfl, sq, r⟩ := h.tup
      rw [cn.g] at sq r
      exact ⟨a, rfl, ⟨vs, sq⟩, k _ _ (same_refl _) (by rw [cn.g]; exact wk_tup sq r)⟩
    | str z =>
      cases hi
      refine (pi_str ha).run pins s σ H R I (imp_O q fun v H1 ⟨N, h, k⟩ => ?_)
      have hv : v = .str z := by
        rcases h with h | ⟨p, _, t, _⟩
        · rw [Rep] at h; exact h
        · exact t.elim
      exact ⟨z, hv, k _ _ (same_refl _) (wk_str z)⟩
    | _ => cases hi
  · exact (pi_list ha).run pins s σ H R I (imp_O q fun v H1 z => z.elim)
theorem Held.int {g : Wd} {N : Addr → Prop} {H : Hp} {i : Int} {v : V} (h : Held g N H (.int i) v) : v = .int i := by
  rcases h with h | ⟨p, _, t, _⟩
  · rw [Rep] at h; exact h
  · exact t.elim
/-- for x in range(e) -/
theorem pRng1 {l : Expr} {p : Pos} (hg : Gl X "range") (hm : X.mg "range" = none) (sf : safeSrc b.ks (lentOf [x]) x = true) (ha : PE X l (tO b W x)) (hs : noStar l = true := by rfl) : PI X tg (.Call (.Name "range" p) [l] [] pos) (tI b W .rng1 [x]) := by
  have st := star_cons hs [] X.env
  have P := pi_range1 (tg := tg) (p := p) (pos := pos) hg hm (pa_cons ha pa_nil st) (by rw [st]; rfl)
  refine ⟨fun pins s σ H R I h => ?_⟩
  rcases tI_one sf h with ⟨d, items, hi, q⟩ | q
  · cases d with
    | int j =>
      have hi : (if (decide (-(2 ^ 62) ≤ j) && decide (j < 2 ^ 62)) = true then some ((List.range j.toNat).map fun (k : Nat) => PyData.int (k : Int)) else none) = some items := hi
      by_cases c : (decide (-(2 ^ 62) ≤ j) && decide (j < 2 ^ 62)) = true
      · rw [if_pos c] at hi
        cases hi
        rw [Bool.and_eq_true, decide_eq_true_eq, decide_eq_true_eq] at c
        refine P.run pins s σ H R I (show tO b W x σ H _ from imp_O q fun v H1 ⟨N, h, k⟩ => ⟨j, by rw [h.int], c.1, c.2, k _ _ (same_refl _) ?_⟩)
        have := wk_rng (g := b.g) (N := N) (H1 := H1) 0 j.toNat
        simpa using this
      · rw [if_neg c] at hi; cases hi
    | _ => cases hi
  · exact P.run pins s σ H R I (show tO b W x σ H _ from imp_O q fun v H1 z => z.elim)
/-- two operands -/
theorem tI_two {sk : Sk} {σ : L2.St} {H : Hp} {R : It → Hp → Prop} (hl : lentOf [x, y] = none) (sf : safeSrc b.ks none x = true) (sf2 : safeSrc b.ks none y = true) (h : tI b W sk [x, y] σ H R) :
    (∃ d e items, srcOf sk [d, e] = some items ∧ tO b W x σ H fun v H1 => tO b W y σ H1 fun u H2 => ∃ N, Held b.g N H2 d v ∧ Held b.g N H2 e u ∧ ∀ J H', Same H2 H' → Wk b.g N H' J items → R J H') ∨ tO b W x σ H fun _ H1 => tO b W y σ H1 fun _ _ => False := by
  obtain ⟨H0, M, B, ρ, G, q⟩ := h
  cases he : evOs b.pg b.C [x, y] ρ with
  | bad => rw [he] at q; exact q.elim
  | exc c d ρ' =>
    rw [he] at q
    refine .inr ?_
    have : tOs b W [x, y] σ H fun _ _ => False := ⟨H0, M, B, ρ, G, by rw [he]; exact q⟩
    exact ops2 this
  | ok os ρ1 =>
    rw [he] at q
    obtain ⟨ds, items, hs, hi, k⟩ := q
    have sh := op_shape he
    match os, sh with
    | [], sh => exact sh.elim
    | [_], sh => exact sh.2.elim
    | _ :: _ :: _ :: _, sh => exact sh.2.2.elim
    | [o, o2], sh =>
      cases q1 : seeO ρ1 o with
      | none => unfold see at hs; rw [q1] at hs; cases hs
      | some d =>
        cases q2 : seeO ρ1 o2 with
        | none => unfold see at hs; rw [q1] at hs; unfold see at hs; rw [q2] at hs; cases hs
        | some e =>
          have : ds = [d, e] := by
            unfold see at hs
            rw [q1] at hs
            unfold see at hs
            rw [q2] at hs
            have hs : some [d, e] = some ds := hs
            exact (Option.some.inj hs).symm
          subst this
          refine .inl ⟨d, e, items, hi, ?_⟩
          have : tOs b W [x, y] σ H fun vs H1 => ∃ v u, vs = [v, u] ∧ ∃ N, Held b.g N H1 d v ∧ Held b.g N H1 e u ∧ ∀ J H', Same H1 H' → Wk b.g N H' J items → R J H' := ⟨H0, M, B, ρ, G, by
            rw [he]
            intro vs H1 k1 G1 r1
            obtain ⟨v, t, rfl, r2, u, t2, rfl, r3, r4⟩ := r1
            have r4 : t2 = [] := r4
            subst r4
            refine ⟨v, u, rfl, OwnAt b.ks σ (hide ρ1 none), held_of (xs := [y]) (os := [o2]) G1 sh sf r2 q1, held_of (xs := []) (os := []) G1 ⟨sh.2.1, True.intro⟩ sf2 r3 q2, fun J H' s w => k J H' (k1.trans (Kept.of_same s)) (G1.same s) ?_⟩
            rw [hl]
            exact w⟩
          have q5 := ops2 this
          refine imp_O q5 fun v H1 q6 => imp_O q6 fun u H2 ⟨w1, w2, ew, q⟩ => ?_
          cases ew
          exact q
theorem pRng2 {l m : Expr} {p : Pos} (hg : Gl X "range") (hm : X.mg "range" = none) (hl : lentOf [x, y] = none) (sf : safeSrc b.ks none x = true) (sf2 : safeSrc b.ks none y = true) (ha : PE X l (tO b W x)) (hb : PE X m (tO b W y)) (hs : noStar l = true := by rfl) (hs2 : noStar m = true := by rfl) :
    PI X tg (.Call (.Name "range" p) [l, m] [] pos) (tI b W .rng2 [x, y]) := by
  have st := star_cons hs [m] X.env
  have st2 := star_cons hs2 [] X.env
  have P := pi_range2 (tg := tg) (p := p) (pos := pos) hg hm (pa_cons ha (pa_cons hb pa_nil st2) st) (by rw [st, st2]; rfl) (by rw [st2]; rfl)
  refine ⟨fun pins s σ H R I h => ?_⟩
  rcases tI_two hl sf sf2 h with ⟨d, e, items, hi, q⟩ | q
  · cases d <;> try (cases hi; done)
    rename_i i
    cases e <;> try (cases hi; done)
    rename_i j
    have hi : (if (decide (-(2 ^ 62) ≤ i) && decide (i < 2 ^ 62) && decide (-(2 ^ 62) ≤ j) && decide (j < 2 ^ 62)) = true then some ((List.range (j - i).toNat).map fun (k : Nat) => PyData.int (i + k)) else none) = some items := hi
    by_cases c : (decide (-(2 ^ 62) ≤ i) && decide (i < 2 ^ 62) && decide (-(2 ^ 62) ≤ j) && decide (j < 2 ^ 62)) = true
    · rw [if_pos c] at hi
      cases hi
      simp only [Bool.and_eq_true, decide_eq_true_eq] at c
      refine P.run pins s σ H R I (show tO b W x σ H fun v H1 => tO b W y σ H1 fun u H2 => _ from imp_O q fun v H1 q2 => imp_O q2 fun u H2 ⟨N, h, h2, k⟩ => ⟨i, j, by rw [h.int, h2.int], ⟨c.1.1.1, c.1.1.2, c.1.2, c.2⟩, k _ _ (same_refl _) (wk_rng i _)⟩)
    · rw [if_neg c] at hi; cases hi
  · exact P.run pins s σ H R I (show tO b W x σ H fun v H1 => tO b W y σ H1 fun u H2 => _ from imp_O q fun v H1 q2 => imp_O q2 fun u H2 z => z.elim)
end
end PV

set_option maxHeartbeats 4000000
/-! PV9: targets; comprehensions. -/
namespace PV
open PySem L2

section
variable {g : Wd} {T : List (Addr × Str)} {ks : List Kd} {H0 H H' : Hp} {M : Addr → Prop} {B : Lent} {σ σ' : L2.St} {ρ ρ' : Rho}
def Lent.add (B : Lent) (p : Addr) : Lent := ⟨fun a => B a ∨ a = p, B.sl⟩
/-- the thing at p is lent -/
theorem Stt.lend (G : Stt g T ks H0 M B H σ ρ) {p : Addr} (hp : H p ≠ none) (no : ¬ OwnAt ks σ ρ p) : Stt g T ks H (OwnAt ks σ ρ) (B.add p) H σ ρ := by
  refine ⟨G.len, fun a o h _ _ => h, G.val, G.bor, fun i d h1 h2 => ?_, G.apart, G.kinds, fun q hq => ?_, fun i d v h => ?_, G.tabs, fun a ps h => ⟨ps, h⟩⟩
  · obtain ⟨q, e, t, m, nb⟩ := G.own i d h1 h2
    refine ⟨q, e, t, .inl ⟨i, d, h1, h2, e⟩, ?_⟩
    rintro (z | z)
    · exact nb z
    · exact no ⟨i, d, h1, h2, z ▸ e⟩
  · rcases hq with z | z
    · exact G.bh q z
    · rw [z]; exact hp
  · rcases G.bsl i d v h with r | ⟨q, e2, t, b⟩
    · exact .inl r
    · exact .inr ⟨q, e2, t, .inl b⟩
theorem Stt.unlend (G : Stt g T ks H0 M B H σ ρ) {p : Addr} (G' : Stt g T ks H (OwnAt ks σ ρ) (B.add p) H' σ' ρ') (k : Kept H H') : Stt g T ks H0 M B H' σ' ρ' ∧ ¬ OwnAt ks σ' ρ' p := by
  refine ⟨?_, fun ⟨i, d, h1, h2, h3⟩ => ?_⟩
  · refine G.unbase (ρ₁ := ρ) (fun i d h => h) ?_ k rfl fun i d h => .inl h
    refine ⟨G'.len, G'.frame, G'.val, G'.bor, fun i d h1 h2 => ?_, G'.apart, G'.kinds, fun q hq => ?_, fun i d v h => ?_, G'.tabs, G'.frT⟩
    · obtain ⟨q, e, t, m, nb⟩ := G'.own i d h1 h2
      refine ⟨q, e, t, m, ?_⟩
      rintro (z | ⟨z1, z2⟩)
      · exact nb (.inl z)
      · exact z2 z1
    · rcases hq with z | ⟨z1, z2⟩
      · exact G'.bh q (.inl z)
      · exact absurd z1 z2
    · rcases G.bsl i d v h with r | ⟨q, e2, t, b⟩
      · exact .inl (r.mono k)
      · exact .inr ⟨q, e2, t.stay k (fun o z => G'.frame q o z (fun y => (G.ownM q y).2 b) fun ps y => t.code.2 ps (by rw [z, y])), .inl b⟩
  · obtain ⟨q, e, _, _, nb⟩ := G'.own i d h1 h2
    rw [h3] at e
    cases e
    exact nb (.inr rfl)
/-- a new thing that nobody holds is written -/
theorem Stt.put (G : Stt g T ks H0 M B H σ ρ) {p : Addr} {o : HO} (mu : Mut (H p)) (no : ¬ OwnAt ks σ ρ p) (nb : ¬ B p) (hm : M p ∨ H0 p = none) (nc : (∀ q, H p ≠ some (LamX.CodeO p q)) ∧ ∀ ps, H p ≠ some (.tbl ps)) : Stt g T ks H0 M B (upd H p o) σ ρ := by
  have k : Kept H (upd H p o) := Kept.put mu
  have oth : ∀ q, q ≠ p → (upd H p o) q = H q := fun q hq => upd_ne hq
  refine ⟨G.len, fun a ob h1 h2 nt => ?_, fun i d h1 h2 => ?_, G.bor, fun i d h1 h2 => ?_, G.apart, G.kinds, fun q hq => ?_, fun i d v h => ?_, tabs_upd G.tabs nc, fun a ps h => ?_⟩
  · have : a ≠ p := by
      rintro rfl
      rcases hm with hm | hm
      · exact h2 hm
      · rw [hm] at h1; cases h1
    rw [oth a this]
    exact G.frame a ob h1 h2 nt
  · obtain ⟨v, e1, r⟩ := G.val i d h1 h2
    exact ⟨v, e1, r.mono k⟩
  · obtain ⟨q, e1, t, hq⟩ := G.own i d h1 h2
    refine ⟨q, e1, t.mono k (oth q ?_), hq⟩
    rintro rfl
    exact no ⟨i, d, h1, h2, e1⟩
  · rw [oth q fun z => nb (z ▸ hq)]
    exact G.bh q hq
  · rcases G.bsl i d v h with r | ⟨q, e2, t, bq⟩
    · exact .inl (r.mono k)
    · exact .inr ⟨q, e2, t.mono k (oth q fun z => nb (z ▸ bq)), bq⟩
  · obtain ⟨ps', z⟩ := G.frT a ps h
    exact ⟨ps', by rw [oth a fun e => nc.2 ps' (by rw [← e]; exact z)]; exact z⟩
end

/-! ### targets -/
def gSeq : List Nat → TGs
  | [] => gNil
  | i :: r => gCons (gName i) (gSeq r)
/-- the parts of a tuple or of a list -/
def gBoth (K : PySem.W.Frag) (n : Nat) (t : TGs) : TG := fun v σ H Q => gTup K n t v σ H Q ∨ gLst K n t v σ H Q
theorem pg_both {X : Cx} {pos : Pos} {es : List Expr} {k : Nat} {t : TGs} {n : Nat} (hc : X.calm = true) (h : PGs X es t) (hn : (assignEach es X.env).length = n := by rfl) (hst : (assignEach es X.env).findIdx? (·.1) = none := by rfl) : PG X (.Tuple es k pos) (gBoth X.K n t) := by
  refine ⟨fun pins s σ H v u Q I r hw => ?_⟩
  rcases hw with hw | hw
  · exact (pg_tup hc h hn hst).run pins s σ H v u Q I r hw
  · exact (pg_lst hc h hn hst).run pins s σ H v u Q I r hw
def gTg (K : PySem.W.Frag) : Tg → TG
  | .nm i => gName i
  | .tp is => gBoth K is.length (gSeq is)
def tgSl : Tg → List Nat
  | .nm i => [i]
  | .tp is => is
/-- σ' is σ but at ws -/
def But (ws : List Nat) (σ σ' : L2.St) : Prop := σ'.length = σ.length ∧ ∀ j, j ∉ ws → σ'[j]? = σ[j]?
theorem But.refl {ws : List Nat} (σ : L2.St) : But ws σ σ := ⟨rfl, fun _ _ => rfl⟩
theorem But.trans {ws : List Nat} {σ σ1 σ2 : L2.St} (a : But ws σ σ1) (b : But ws σ1 σ2) : But ws σ σ2 := ⟨b.1.trans a.1, fun j h => (b.2 j h).trans (a.2 j h)⟩
theorem But.mono {ws vs : List Nat} {σ σ1 : L2.St} (a : But ws σ σ1) (h : ∀ i ∈ ws, i ∈ vs) : But vs σ σ1 := ⟨a.1, fun j hj => a.2 j fun z => hj (h j z)⟩
theorem But.set {ws : List Nat} {σ : L2.St} {i : Nat} {v : Option V} (h : i ∈ ws) : But ws σ (σ.set i v) := ⟨List.length_set, fun j hj => by
  have : j ≠ i := fun z => hj (z ▸ h)
  rw [List.getElem?_set_ne (Ne.symm this)]⟩
section
variable {g : Wd} {T : List (Addr × Str)} {ks : List Kd} {H0 H H' : Hp} {M : Addr → Prop} {B : Lent} {σ σ' : L2.St} {ρ ρ' : Rho}
theorem seq_ok : ∀ {is : List Nat} {ds : List D} {vs : List V} {σ : L2.St} {ρ ρ' : Rho} {Q : L2.St → Hp → Prop}, (∀ i ∈ is, ks[i]? = some .val ∧ i < σ.length) → Stt g T ks H0 M B H σ ρ → Reps g H ds vs → setAll is ds ρ = some ρ' →
    (∀ σ', Stt g T ks H0 M B H σ' ρ' → But is σ σ' → Q σ' H) → gSeq is vs σ H Q
  | [], ds, vs, σ, ρ, ρ', Q, hk, G, r, h, q => by
    cases ds with
    | nil =>
      cases h
      rw [Reps] at r
      exact ⟨r, q σ G (But.refl σ)⟩
    | cons _ _ => cases h
  | i :: is, ds, vs, σ, ρ, ρ', Q, hk, G, r, h, q => by
    cases ds with
    | nil => cases h
    | cons d ds =>
      rw [Reps] at r
      obtain ⟨v, t, rfl, r1, r2⟩ := r
      obtain ⟨h1, h2⟩ := hk i (by simp)
      refine ⟨v, t, rfl, ?_⟩
      have b1 : But (i :: is) σ (σ.set i (some v)) := But.set (by simp)
      refine seq_ok (fun j hj => ?_) (G.setVal h1 r1 h2) r2 (show setAll is ds (ρ.set i (some d)) = some ρ' from h) fun σ' G' b2 => q σ' G' (b1.trans (b2.mono fun j hj => List.mem_cons_of_mem _ hj))
      obtain ⟨a1, a2⟩ := hk j (List.mem_cons_of_mem _ hj)
      exact ⟨a1, by rw [List.length_set]; exact a2⟩
theorem tg_ok {tg : Tg} {d : D} {v : V} {Q : L2.St → Hp → Prop} (hk : ∀ i ∈ tgSl tg, ks[i]? = some .val ∧ i < σ.length) (G : Stt g T ks H0 M B H σ ρ) (r : Rep g H d v) (h : setTg tg d ρ = some ρ')
    (q : ∀ σ', Stt g T ks H0 M B H σ' ρ' → But (tgSl tg) σ σ' → Q σ' H) : gTg g.K tg v σ H Q := by
  cases tg with
  | nm i =>
    obtain ⟨h1, h2⟩ := hk i (by simp [tgSl])
    cases h
    exact q _ (G.setVal h1 r h2) (But.set (by simp [tgSl]))
  | tp is =>
    have len : ∀ {is : List Nat} {ds : List D} {ρ : Rho}, setAll is ds ρ = some ρ' → ds.length = is.length := by
      intro is
      induction is with
      | nil => intro ds ρ h; cases ds with
        | nil => rfl
        | cons _ _ => cases h
      | cons i is ih => intro ds ρ h; cases ds with
        | nil => cases h
        | cons d ds => rw [List.length_cons, List.length_cons, ih h]
    cases d with
    | tuple ds =>
      rw [Rep] at r
      obtain ⟨a, vs, rfl, sq, r2⟩ := r
      exact .inl ⟨a, vs, rfl, sq, r2.length.trans (len h), seq_ok hk G r2 h q⟩
    | list ds =>
      rw [Rep] at r
      obtain ⟨a, vs, rfl, sq, r2⟩ := r
      exact .inr ⟨a, vs, rfl, sq.sq, r2.length.trans (len h), seq_ok hk G r2 h q⟩
    | _ => cases h
/-- wiping -/
theorem wipe_get {σ : L2.St} : ∀ {vs : List Nat} {j : Nat}, (wipe σ vs)[j]? = if j ∈ vs ∧ j < σ.length then some none else σ[j]?
  | [], j => by simp [wipe]
  | v :: vs, j => by
    unfold wipe
    by_cases e : v = j
    · subst e
      by_cases h : v < σ.length
      · rw [List.getElem?_set_self (by rw [wipe_length]; exact h), if_pos ⟨by simp, h⟩]
      · rw [if_neg (fun z => h z.2), List.getElem?_eq_none (by rw [List.length_set, wipe_length]; omega), List.getElem?_eq_none (by omega)]
    · rw [List.getElem?_set_ne e, wipe_get]
      by_cases h : j ∈ vs ∧ j < σ.length
      · rw [if_pos h, if_pos ⟨List.mem_cons_of_mem _ h.1, h.2⟩]
      · rw [if_neg h, if_neg (fun z => h ⟨(List.mem_cons.mp z.1).resolve_left (Ne.symm e), z.2⟩)]
theorem wipe_but {vs ws : List Nat} {σ σ' : L2.St} (b : But ws σ σ') (h : ∀ i ∈ ws, i ∈ vs) : wipe σ' vs = wipe σ vs := by
  apply List.ext_getElem?
  intro j
  rw [wipe_get, wipe_get, b.1]
  by_cases c : j ∈ vs ∧ j < σ.length
  · rw [if_pos c, if_pos c]
  · rw [if_neg c, if_neg c]
    by_cases hj : j ∈ vs
    · have : ¬ j < σ.length := fun z => c ⟨hj, z⟩
      rw [List.getElem?_eq_none (by rw [b.1]; omega), List.getElem?_eq_none (by omega)]
    · exact b.2 j fun z => hj (h j z)
theorem wipeR_get {ρ : Rho} : ∀ {vs : List Nat} {j : Nat} {d : D}, (wipeR ρ vs)[j]? = some (some d) → ρ[j]? = some (some d) ∧ j ∉ vs
  | [], j, d, h => ⟨h, by simp⟩
  | v :: vs, j, d, h => by
    unfold wipeR at h
    obtain ⟨h1, h2⟩ := set_none h
    obtain ⟨h3, h4⟩ := wipeR_get h1
    exact ⟨h3, by simp only [List.mem_cons, not_or]; exact ⟨h2, h4⟩⟩
theorem wipeR_len {ρ : Rho} : ∀ vs : List Nat, (wipeR ρ vs).length = ρ.length
  | [] => rfl
  | v :: vs => by unfold wipeR; rw [List.length_set, wipeR_len vs]
/-- the state of a block's turn -/
theorem Stt.wipe (G : Stt g T ks H0 M B H σ ρ) (vs : List Nat) : Stt g T ks H0 M B H (L2.wipe σ vs) (wipeR ρ vs) := by
  refine (G.weak (wipeR_len vs) fun i d h => (wipeR_get h).1).sigma (wipe_length σ vs) fun i d v h1 h2 => ?_
  rw [wipe_get, if_neg (fun z => (wipeR_get h1).2 z.1)]
  exact h2
end

/-! ### comprehensions -/
abbrev WF : WX := fun _ _ _ _ => False
section
variable {X : Cx} {b : Bd} {W : WX}
/-- in a block -/
theorem Cn.blk (cn : Cn X b W) (s : Shared) (H : Hp) (scope : Scope) (cenv : Env) (fp : List Addr) : Cn (X.blk s H scope cenv fp) b WF :=
  ⟨cn.g, cn.calm, cn.nd, cn.hr, cn.gd, PassesOwn.never, LamX.takes0, cn.fc⟩
/-- a clause's tests -/
def tIfs (b : Bd) (W : WX) (ifx : List PV.X) : TT := fun σ H Q => ∃ H0 M B ρ, Stt b.g b.T b.ks H0 M B H σ ρ ∧ aftB b W H0 M B σ H Q (evIf b.pg b.C ifx ρ)
theorem ifN : PTs X [] (tIfs b W []) := ⟨fun pins s σ H Q I ⟨H0, M, B, ρ, G, q⟩ => by
  rw [evIf] at q
  exact (pts_nil (X := X)).run pins s σ H Q I (q H (Kept.refl H) G)⟩
theorem if1 {c : Expr} {x : PV.X} (h : PT X c (tT b W x)) : PTs X [c] (tIfs b W [x]) := ⟨fun pins s σ H Q I ⟨H0, M, B, ρ, G, q⟩ => by
  rw [evIf] at q
  exact (pts_one h).run pins s σ H Q I ⟨H0, M, B, ρ, G, q⟩⟩
theorem wipe_wipe (σ : L2.St) (vs : List Nat) : wipe (wipe σ vs) vs = wipe σ vs := by
  apply List.ext_getElem?
  intro j
  rw [wipe_get, wipe_length]
  by_cases c : j ∈ vs ∧ j < σ.length
  · rw [if_pos c, wipe_get, if_pos c]
  · rw [if_neg c]
section
variable {g : Wd} {T : List (Addr × Str)} {ks : List Kd} {H0 H1 H H' : Hp} {M : Addr → Prop} {B : Lent} {σ σ' : L2.St} {ρ1 ρ' ρ2 ρ3 : Rho}
/-- behind a block: its own names' slots as they were -/
theorem Stt.back (G1 : Stt g T ks H0 M B H1 σ ρ1) (k : Kept H1 H) {vs : List Nat} (hv : ∀ i ∈ vs, ks[i]? = some .val) (G' : Stt g T ks H0 M B H (L2.wipe σ vs) ρ2) (hl : ρ3.length = σ.length)
    (w : ∀ (i : Nat) (d : D), ρ3[i]? = some (some d) → (i ∉ vs ∧ ρ2[i]? = some (some d)) ∨ (i ∈ vs ∧ ρ1[i]? = some (some d))) : Stt g T ks H0 M B H σ ρ3 := by
  have sg : ∀ {i : Nat}, i ∉ vs → (L2.wipe σ vs)[i]? = σ[i]? := fun {i} h => by rw [wipe_get, if_neg (fun z => h z.1)]
  have nv : ∀ {i : Nat} {k : Kd}, ks[i]? = some k → k ≠ .val → i ∉ vs := fun {i k} h1 h2 h3 => by
    rw [hv i h3] at h1
    exact h2 (Option.some.inj h1).symm
  have no : ∀ {i : Nat}, isOwn ks[i]? = true → i ∉ vs := fun {i} h1 h3 => by
    rw [hv i h3] at h1; cases h1
  refine ⟨hl, G'.frame, fun i d h1 h2 => ?_, fun i d h1 h2 => ?_, fun i d h1 h2 => ?_, fun i j d e p hne h1 h2 h3 h4 h5 h6 => ?_, fun i d h => ?_, G'.bh, G'.bsl, G'.tabs, G'.frT⟩
  · rcases w i d h1 with ⟨hi, z⟩ | ⟨hi, z⟩
    · obtain ⟨v, e, r⟩ := G'.val i d z h2
      exact ⟨v, by rw [← sg hi]; exact e, r⟩
    · obtain ⟨v, e, r⟩ := G1.val i d z h2
      exact ⟨v, e, r.mono k⟩
  · have hi := nv h2 (by decide)
    rcases w i d h1 with ⟨_, z⟩ | ⟨hi2, _⟩
    · obtain ⟨v, e, r⟩ := G'.bor i d z h2
      exact ⟨v, by rw [← sg hi]; exact e, r⟩
    · exact absurd hi2 hi
  · have hi := no h2
    rcases w i d h1 with ⟨_, z⟩ | ⟨hi2, _⟩
    · obtain ⟨p, e, r⟩ := G'.own i d z h2
      exact ⟨p, by rw [← sg hi]; exact e, r⟩
    · exact absurd hi2 hi
  · have hi := no h3
    have hj := no h4
    rcases w i d h1 with ⟨_, z⟩ | ⟨hi2, _⟩
    · rcases w j e h2 with ⟨_, y⟩ | ⟨hj2, _⟩
      · exact G'.apart i j d e p hne z y h3 h4 (by rw [sg hi]; exact h5) (by rw [sg hj]; exact h6)
      · exact absurd hj2 hj
    · exact absurd hi2 hi
  · rcases w i d h with ⟨_, z⟩ | ⟨_, z⟩
    · exact G'.kinds i d z
    · exact G1.kinds i d z
theorem backR_get {ρ ρ' : Rho} : ∀ {vs : List Nat} {j : Nat} {d : D}, (backR ρ ρ' vs)[j]? = some (some d) → (j ∉ vs ∧ ρ'[j]? = some (some d)) ∨ (j ∈ vs ∧ ρ[j]? = some (some d))
  | [], j, d, h => .inl ⟨by simp, h⟩
  | v :: vs, j, d, h => by
    unfold backR at h
    by_cases e : v = j
    · subst e
      refine .inr ⟨by simp, ?_⟩
      by_cases hl : v < (backR ρ ρ' vs).length
      · rw [List.getElem?_set_self hl] at h
        cases q : ρ[v]? with
        | none => rw [q] at h; cases h
        | some o => rw [q] at h; exact congrArg some (Option.some.inj h)
      · rw [List.getElem?_eq_none (by rw [List.length_set]; omega)] at h; cases h
    · rw [List.getElem?_set_ne e] at h
      rcases backR_get h with ⟨h1, h2⟩ | ⟨h1, h2⟩
      · exact .inl ⟨by simp only [List.mem_cons, not_or]; exact ⟨Ne.symm e, h1⟩, h2⟩
      · exact .inr ⟨List.mem_cons_of_mem _ h1, h2⟩
theorem backR_len {ρ ρ' : Rho} : ∀ vs : List Nat, (backR ρ ρ' vs).length = ρ'.length
  | [] => rfl
  | v :: vs => by unfold backR; rw [List.length_set, backR_len vs]
theorem unhide_get {ρ ρ' : Rho} {l : Option Nat} {j : Nat} {d : D} (h : (unhide ρ l ρ')[j]? = some (some d)) : (l ≠ some j ∧ ρ'[j]? = some (some d)) ∨ (l = some j ∧ ρ[j]? = some (some d)) := by
  cases l with
  | none => exact .inl ⟨(fun z => nomatch z), h⟩
  | some i =>
    have h : (ρ'.set i ((ρ[i]?).getD none))[j]? = some (some d) := h
    by_cases e : i = j
    · subst e
      refine .inr ⟨rfl, ?_⟩
      by_cases hl : i < ρ'.length
      · rw [List.getElem?_set_self hl] at h
        cases q : ρ[i]? with
        | none => rw [q] at h; cases h
        | some o => rw [q] at h; exact congrArg some (Option.some.inj h)
      · rw [List.getElem?_eq_none (by rw [List.length_set]; omega)] at h; cases h
    · rw [List.getElem?_set_ne e] at h
      exact .inl ⟨fun z => e (Option.some.inj z), h⟩
theorem unhide_len {ρ ρ' : Rho} {l : Option Nat} : (unhide ρ l ρ').length = ρ'.length := by cases l <;> first | rfl | exact List.length_set
theorem hide_at {ρ : Rho} {i : Nat} {d : D} (h : ρ[i]? = some (some d)) : (hide ρ (some i))[i]? = some none := by
  have : i < ρ.length := (List.getElem?_eq_some_iff.mp h).1
  exact List.getElem?_set_self this
theorem noOwn_new {p : Addr} (G : Stt g T ks H0 M B H σ ρ1) (hp : H p = none) : ¬ OwnAt ks σ ρ1 p := fun ⟨i, d, h1, h2, h3⟩ => G.ap_new hp i d h1 h2 h3
end
/-- [elt for target in iter if ..] -/
theorem lc_tm {z : PV.X} {tg : Tg} {sk : Sk} {xs ifx : List PV.X} {vs : List Nat} {σ : L2.St} {H : Hp} {Q : VK} (gX : b.g.K = X.K) (hsub : ∀ i ∈ tgSl tg, i ∈ vs) (hval : ∀ i ∈ vs, b.ks[i]? = some .val ∧ i < σ.length) (hl : ∀ i, lentOf xs = some i → isOwn b.ks[i]? = true)
    (q : tR b W true (.lc z tg sk xs ifx vs) σ H Q) : tLc (tI b W sk xs) (gTg X.K tg) (tIfs b WF ifx) (tR b WF false z) vs σ H Q := by
  obtain ⟨H0, M, B, ρ, G, q⟩ := q
  rw [evE] at q
  refine ⟨H0, M, B, ρ, G, ?_⟩
  cases he : evOs b.pg b.C xs ρ with
  | bad => rw [he] at q; exact q
  | exc c d ρ' => rw [he] at q; exact q
  | ok os ρ1 =>
    rw [he] at q
    simp only [R.bind] at q
    cases hs : see ρ1 os with
    | none => simp only [hs] at q; exact q.elim
    | some ds0 =>
      cases hi : srcOf sk ds0 with
      | none => simp only [hs, hi] at q; exact q.elim
      | some items =>
        simp only [hs, hi] at q
        generalize hfe : (fun r => evE b.pg b.C z r) = fe at q
        generalize hfi : (fun r => evIf b.pg b.C ifx r) = fi at q
        cases hc : compL fe fi tg vs items (hide ρ1 (lentOf xs)) with
        | bad => simp only [hc] at q; exact q.elim
        | exc c d ρ' => simp only [hc] at q; exact q.elim
        | ok XS RE =>
          simp only [hc] at q
          cases hf : fitsLn XS.length with
          | false => simp only [hf] at q; exact q.elim
          | true =>
            simp only [hf, if_true] at q
            refine ⟨ds0, items, hs, hi, fun J H1 k1 G1 wk D hD => ?_⟩
            generalize hN : OwnAt b.ks σ (hide ρ1 (lentOf xs)) = N at wk
            generalize hB1 : B.put b.ks σ ρ1 (hide ρ1 (lentOf xs)) = B1
            have Gr : Stt b.g b.T b.ks H1 N B1 H1 σ (hide ρ1 (lentOf xs)) := by
              rw [← hN, ← hB1]
              exact G1.rebase hide_len fun i d h => (hide_none h).1
            have nD1 : ¬ B1 D := by
              rw [← hB1]
              rintro (z1 | ⟨z1, _⟩)
              · exact G1.nb_new hD z1
              · exact noOwn_new G1 hD z1
            have hfit := fitsLn_le hf
            refine ⟨fun i m H2 => m = items.length - i ∧ i ≤ items.length ∧ ∃ ρc acc ds, Kept H1 H2 ∧ Stt b.g b.T b.ks H1 N B1 H2 (wipe σ vs) (wipeR ρc vs) ∧ H2 D = some (.lst acc) ∧ Reps b.g H2 ds acc ∧ ¬ OwnAt b.ks (wipe σ vs) (wipeR ρc vs) D ∧
              ∃ xs', compL fe fi tg vs (items.drop i) ρc = .ok xs' RE ∧ ds ++ xs' = XS, ⟨items.length, by simp, Nat.zero_le _, hide ρ1 (lentOf xs), [], [], Kept.new hD, (Gr.same (same_new hD)).wipe vs, upd_same, .nil, fun ⟨i, d, h1, h2, h3⟩ => ?_, XS, hc, rfl⟩, ?_⟩
            · rw [wipe_get] at h3
              split at h3
              · cases h3
              · exact noOwn_new Gr hD ⟨i, d, (wipeR_get h1).1, h2, h3⟩
            rintro i m H2 ⟨rfl, hle, ρc, acc, ds, k2, G2, eD, rD, nO, xs', hcl, htot⟩
            have fr : ∀ a o, H1 a = some o → ¬ N a → (∀ ps, o ≠ .tbl ps) → H2 a = some o := G2.frame
            by_cases hlt : i < items.length
            · have hd : items[i]? = some items[i] := List.getElem?_eq_getElem hlt
              obtain ⟨go, yl⟩ := wk.go i H2 _ k2 fr hd
              refine .inr ⟨go, fun H3 => ∃ ρc acc ds, Kept H1 H3 ∧ Stt b.g b.T b.ks H1 N B1 H3 (wipe σ vs) (wipeR ρc vs) ∧ H3 D = some (.lst acc) ∧ Reps b.g H3 ds acc ∧ ¬ OwnAt b.ks (wipe σ vs) (wipeR ρc vs) D ∧
                ∃ xs', compL fe fi tg vs (items.drop (i + 1)) ρc = .ok xs' RE ∧ ds ++ xs' = XS, fun H3 h3 => ⟨items.length - (i + 1), by omega, rfl, hlt, h3⟩, fun x H3 hy => ?_⟩
              obtain ⟨s3, rx⟩ := yl x H3 hy
              have k3 := Kept.of_same s3
              have G3 := G2.same s3
              have eD3 : H3 D = some (.lst acc) := s3 _ _ eD
              have GL := G3.lend (p := D) (by rw [eD3]; exact fun z => nomatch z) nO
              rw [List.drop_eq_getElem_cons hlt] at hcl
              unfold compL at hcl
              cases ht : setTg tg items[i] (wipeR ρc vs) with
              | none => simp only [ht] at hcl; cases hcl
              | some ρt =>
                simp only [ht] at hcl
                rw [← gX]
                refine tg_ok (fun j hj => ?_) GL rx ht fun σ2 G4 b4 => ?_
                · obtain ⟨a1, a2⟩ := hval j (hsub j hj)
                  exact ⟨a1, by rw [wipe_length]; exact a2⟩
                have ew : wipe σ2 vs = wipe σ vs := by rw [wipe_but b4 hsub, wipe_wipe]
                refine ⟨ew, ?_⟩
                refine ⟨_, _, _, ρt, G4, ?_⟩
                have hfi' : evIf b.pg b.C ifx ρt = fi ρt := by rw [← hfi]
                rw [hfi']
                cases h5 : fi ρt with
                | bad => rw [h5] at hcl; cases hcl
                | exc c d ρ' => rw [h5] at hcl; cases hcl
                | ok bb ρ2 =>
                  rw [h5] at hcl
                  intro H5 k5 G5
                  -- the turn's end
                  have fin : ∀ {ρ5 : Rho} {H6 : Hp}, Kept H3 H6 → Stt b.g b.T b.ks H3 (OwnAt b.ks (wipe σ vs) (wipeR ρc vs)) (B1.add D) H6 σ2 ρ5 → H6 D = some (.lst acc) ∧ Stt b.g b.T b.ks H1 N B1 H6 σ2 ρ5 ∧ ¬ OwnAt b.ks σ2 ρ5 D := fun {ρ5 H6} k6 G6 => by
                    obtain ⟨a1, a2⟩ := G3.unlend G6 k6
                    exact ⟨G6.frame D _ eD3 nO fun ps z => (nomatch z), a1, a2⟩
                  have wiped : ∀ {ρ5 : Rho}, ¬ OwnAt b.ks σ2 ρ5 D → ¬ OwnAt b.ks (wipe σ vs) (wipeR ρ5 vs) D := fun {ρ5} n ⟨j, w, h1, h2, h3⟩ => by
                    rw [← ew, wipe_get] at h3
                    split at h3
                    · cases h3
                    · exact n ⟨j, w, (wipeR_get h1).1, h2, h3⟩
                  cases bb with
                  | false =>
                    obtain ⟨a1, a2, a3⟩ := fin k5 G5
                    have a4 := a2.wipe vs
                    rw [ew] at a4
                    exact ⟨ρ2, acc, ds, k2.trans (k3.trans k5), a4, a1, Reps.mono (k3.trans k5) _ rD, wiped a3, xs', hcl, htot⟩
                  | true =>
                    rw [if_pos rfl]
                    refine ⟨_, _, _, ρ2, G5, ?_⟩
                    have hfe' : evE b.pg b.C z ρ2 = fe ρ2 := by rw [← hfe]
                    rw [hfe']
                    have hcl : (fe ρ2).bind (fun x ρ3 => (compL fe fi tg vs (items.drop (i + 1)) ρ3).bind fun xs ρ4 => R.ok (x :: xs) ρ4) = R.ok xs' RE := hcl
                    cases h6 : fe ρ2 with
                    | bad => rw [h6] at hcl; cases hcl
                    | exc c d ρ' => rw [h6] at hcl; cases hcl
                    | ok xd ρ3 =>
                      rw [h6] at hcl
                      intro y H6 k6 G6 ry
                      obtain ⟨a1, a2, a3⟩ := fin (k5.trans k6) G6
                      have hcl : (compL fe fi tg vs (items.drop (i + 1)) ρ3).bind (fun xs ρ4 => R.ok (xd :: xs) ρ4) = R.ok xs' RE := hcl
                      cases h7 : compL fe fi tg vs (items.drop (i + 1)) ρ3 with
                      | bad => rw [h7] at hcl; cases hcl
                      | exc c d ρ' => rw [h7] at hcl; cases hcl
                      | ok xs2 ρ4 =>
                        rw [h7] at hcl
                        cases hcl
                        have hlen : acc.length < sizeLine := by
                          have e1 := rD.length
                          have e2 : ds.length + (xs2.length + 1) = XS.length := by rw [← htot, List.length_append, List.length_cons]
                          omega
                        refine ⟨acc, a1, hlen, ρ3, acc ++ [y], ds ++ [xd], ?_, ?_, upd_same, ?_, wiped a3, xs2, h7, by rw [List.append_assoc]; exact htot⟩
                        · exact (k2.trans (k3.trans (k5.trans k6))).newP (NF.of_none hD)
                        · have a4 := (a2.put (o := .lst (acc ++ [y])) (by rw [a1]; trivial) a3 nD1 (.inr hD) (by rw [a1]; exact ⟨fun q z => (nomatch (Option.some.inj z)), fun q z => (nomatch (Option.some.inj z))⟩)).wipe vs
                          rw [ew] at a4
                          exact a4
                        · have kk : Kept H6 (upd H6 D (.lst (acc ++ [y]))) := Kept.put (by rw [a1]; trivial)
                          exact Reps.append (Reps.mono ((k3.trans (k5.trans k6)).trans kk) _ rD) (.cons (Rep.mono kk _ ry.old) .nil)
            · have ei : i = items.length := by omega
              refine .inl ⟨wk.stop i H2 k2 fr (by omega), ?_⟩
              rw [ei, List.drop_length] at hcl
              unfold compL at hcl
              cases hcl
              rw [List.append_nil] at htot
              subst htot
              -- the state behind
              have hk : ∀ j ∈ vs, b.ks[j]? = some .val := fun j hj => (hval j hj).1
              have nv : ∀ {j : Nat}, isOwn b.ks[j]? = true → j ∉ vs := fun {j} h1 h3 => by rw [hk j h3] at h1; cases h1
              rw [← hN, ← hB1] at G2
              have lenE : (wipeR RE vs).length = σ.length := by rw [G2.len, wipe_length]
              have G3 : Stt b.g b.T b.ks H0 M B H2 (wipe σ vs) (unhide ρ1 (lentOf xs) (wipeR RE vs)) := by
                refine G1.unbase (ρ₁ := hide ρ1 (lentOf xs)) (fun j d h => (hide_none h).1) G2 k2 unhide_len fun j d h => ?_
                rcases unhide_get h with ⟨h1, h2⟩ | ⟨h1, h2⟩
                · exact .inl h2
                · have ho := hl j h1
                  refine .inr ⟨h2, ho, by rw [h1]; exact hide_at h2, ?_⟩
                  rw [wipe_get, if_neg (fun z => nv ho z.1)]
              have G4 : Stt b.g b.T b.ks H0 M B H2 σ (unhide ρ1 (lentOf xs) (backR ρ1 RE vs)) := by
                have lc : RE.length = σ.length := by rw [← lenE, wipeR_len]
                refine G1.back k2 hk G3 (by rw [unhide_len, backR_len]; exact lc) fun j d h => ?_
                rcases unhide_get h with ⟨h1, h2⟩ | ⟨h1, h2⟩
                · rcases backR_get h2 with ⟨h3, h4⟩ | ⟨h3, h4⟩
                  · refine .inl ⟨h3, ?_⟩
                    have : (wipeR RE vs)[j]? = some (some d) := by
                      have : ∀ {us : List Nat}, j ∉ us → (wipeR RE us)[j]? = RE[j]? := by
                        intro us
                        induction us with
                        | nil => intro _; rfl
                        | cons u us ih =>
                          intro hu
                          simp only [List.mem_cons, not_or] at hu
                          unfold wipeR
                          rw [List.getElem?_set_ne (Ne.symm hu.1), ih hu.2]
                      rw [this h3]; exact h4
                    cases hlx : lentOf xs with
                    | none => exact this
                    | some u =>
                      rw [hlx] at h1
                      show ((wipeR RE vs).set u _)[j]? = _
                      rw [List.getElem?_set_ne (fun e => h1 (congrArg some e))]
                      exact this
                  · exact .inr ⟨h3, h4⟩
                · have ho := hl j h1
                  refine .inl ⟨nv ho, ?_⟩
                  rw [h1]
                  show ((wipeR RE vs).set j _)[j]? = _
                  have hj : j < (wipeR RE vs).length := by
                    rw [lenE, ← G1.len]
                    exact (List.getElem?_eq_some_iff.mp h2).1
                  rw [List.getElem?_set_self hj, h2]
                  rfl
              refine q _ H2 (k1.trans k2) G4 ?_
              unfold RR
              refine ⟨D, rfl, ⟨(NF.of_none hD).pre k1, fun ⟨j, d, h1, h2, h3⟩ => ?_, G1.nb_new hD, G1.new0 hD⟩, acc, eD, rD⟩
              rcases unhide_get h1 with ⟨h4, h5⟩ | ⟨h4, h5⟩
              · rcases backR_get h5 with ⟨h6, h7⟩ | ⟨h6, h7⟩
                · refine nO ⟨j, d, ?_, h2, by rw [wipe_get, if_neg (fun z => h6 z.1)]; exact h3⟩
                  have : ∀ {us : List Nat}, j ∉ us → (wipeR RE us)[j]? = RE[j]? := by
                    intro us
                    induction us with
                    | nil => intro _; rfl
                    | cons u us ih =>
                      intro hu
                      simp only [List.mem_cons, not_or] at hu
                      unfold wipeR
                      rw [List.getElem?_set_ne (Ne.symm hu.1), ih hu.2]
                  rw [this h6]; exact h7
                · exact nv h2 h6
              · exact noOwn_new G1 hD ⟨j, d, h5, h2, h3⟩

section
variable {z : PV.X} {tg : Tg} {sk : Sk} {xs ifx : List PV.X} {vs : List Nat} {elt target iter : Expr} {ifs : List Expr} {scope : Scope} {own : List (Str × Nat)} {pos : Pos}
/-- what a comprehension's slots are -/
def lcOk (ks : List Kd) (xs : List PV.X) (tg : Tg) (vs : List Nat) (n : Nat) : Bool :=
  (tgSl tg).all (fun i => vs.contains i) && vs.all (fun i => decide (ks[i]? = some .val) && decide (i < n)) && (match lentOf xs with | some i => isOwn ks[i]? | none => true)
theorem lcOk_by {ks : List Kd} {n : Nat} (h : lcOk ks xs tg vs n = true) : (∀ i ∈ tgSl tg, i ∈ vs) ∧ (∀ i ∈ vs, ks[i]? = some .val ∧ i < n) ∧ ∀ i, lentOf xs = some i → isOwn ks[i]? = true := by
  unfold lcOk at h
  simp only [Bool.and_eq_true, List.all_eq_true, decide_eq_true_eq] at h
  refine ⟨fun i hi => by simpa using h.1.1 i hi, h.1.2, fun i hi => ?_⟩
  have := h.2
  rw [hi] at this
  exact this
/-- a reading that knows how many slots there are -/
theorem PE.len {e : Expr} {t t' : TE} (h : PE X e t) (w : ∀ σ H Q, σ.length = X.N.length → t' σ H Q → t σ H Q) : PE X e t' := ⟨fun pins s σ H Q I q => h.run pins s σ H Q I (w σ H Q I.len q)⟩
theorem PS.len {e : Stmt} {t t' : TS} (h : PS X e t) (w : ∀ D σ H, σ.length = X.N.length → t' D σ H → t D σ H) : PS X e t' := ⟨fun pins s σ H D I q => h.run pins s σ H D I (w D σ H I.len q)⟩
theorem eLc (cn : Cn X b W) (hi : PI X target iter (tI b W sk xs)) (ok : BlkOk X.N X.env.scope scope own) (hv : own.map (·.2) = vs) (lk : lcOk b.ks xs tg vs X.N.length = true)
    (hg : ∀ (s : Shared) (H : Hp) (C : Addr) (cl : List (Str × Addr)) (fp : List Addr), PG (X.blk s H scope (compEnvC scope cl C X.env) fp) target (gTg X.K tg))
    (ht : ∀ (s : Shared) (H : Hp) (C : Addr) (cl : List (Str × Addr)) (fp : List Addr), Cn (X.blk s H scope (compEnvC scope cl C X.env) fp) b WF → PTs (X.blk s H scope (compEnvC scope cl C X.env) fp) ifs (tIfs b WF ifx))
    (he : ∀ (s : Shared) (H : Hp) (C : Addr) (cl : List (Str × Addr)) (fp : List Addr), Cn (X.blk s H scope (compEnvC scope cl C X.env) fp) b WF → PE (X.blk s H scope (compEnvC scope cl C X.env) fp) elt (tR b WF false z))
    (hs : ∀ x, foldedSetIterable iter X.env x = pure x := by intro _; rfl) : PE X (.ListComp elt [⟨target, iter, ifs, 0⟩] scope pos) (tR b W true (.lc z tg sk xs ifx vs)) := by
  obtain ⟨h1, h2, h3⟩ := lcOk_by lk
  refine PV.PE.len (pe_lc cn.calm cn.nd hi ok hg (fun s H C cl fp => ht s H C cl fp (cn.blk s H scope _ fp)) (fun s H C cl fp => he s H C cl fp (cn.blk s H scope _ fp)) hs) fun σ H Q hl q => ?_
  rw [hv]
  exact lc_tm (by rw [cn.g]) h1 (fun i hi => by rw [hl]; exact h2 i hi) h3 q
end
end
end PV

set_option maxHeartbeats 4000000
/-! PV10: statements. -/
namespace PV
open PySem L2

/-- a result: new, if the def's results are -/
def RetR (b : Bd) (H0 : Hp) (M : Addr → Prop) (B : Lent) (H' : Hp) (σ' : L2.St) (ρ' : Rho) (d : D) (v : V) : Prop :=
  if (isTopD d && b.fr) = true then ∃ p, v = .ref p ∧ ¬ OwnAt b.ks σ' ρ' p ∧ ¬ B p ∧ (M p ∨ H0 p = none) ∧ Top b.g H' p d else Rep b.g H' d v
/-- what is wanted behind a statement -/
def aftS (b : Bd) (W : WX) (H0 : Hp) (M : Addr → Prop) (B : Lent) (ws : List Nat) (σ : L2.St) (H : Hp) (D : Ends) (r : SR) : Prop :=
  match r with
  | .nx ρ' => ∀ σ' H', Kept H H' → But ws σ σ' → Stt b.g b.T b.ks H0 M B H' σ' ρ' → D.nx σ' H'
  | .brk ρ' => ∀ σ' H', Kept H H' → But ws σ σ' → Stt b.g b.T b.ks H0 M B H' σ' ρ' → D.bk σ' H'
  | .cont ρ' => ∀ σ' H', Kept H H' → But ws σ σ' → Stt b.g b.T b.ks H0 M B H' σ' ρ' → D.ct σ' H'
  | .ret d ρ' => ∀ v σ' H', Kept H H' → But ws σ σ' → Stt b.g b.T b.ks H0 M B H' σ' ρ' → RetR b H0 M B H' σ' ρ' d v → D.rt v H'
  | .exc c d ρ' => ∀ cls dd σ' H', Kept H H' → But ws σ σ' → Stt b.g b.T b.ks H0 M B H' σ' ρ' → ExR b.g b.EC H' c d cls dd → W cls dd σ' H'
  | .bad => False
def tS (b : Bd) (W : WX) (ws : List Nat) (f : Rho → SR) : TS := fun D σ H => ∃ H0 M B ρ, Stt b.g b.T b.ks H0 M B H σ ρ ∧ aftS b W H0 M B ws σ H D (f ρ)
/-- one statement; statements in a row -/
def t1 (b : Bd) (W : WX) (ws : List Nat) (s : S) : TS := tS b W ws fun ρ => exS b.pg b.C s ρ
def tN (b : Bd) (W : WX) (ws : List Nat) (ss : List S) : TS := tS b W ws fun ρ => exSs b.pg b.C ss ρ
section
variable {X : Cx} {b : Bd} {W : WX} {ws : List Nat} {st : Stmt} {rest : List Stmt} {s : S} {ss : List S} {e : Expr} {x y z : PV.X} {pos pos' : Pos} {i : Nat} {nm : Str}
theorem aftS.pre {H0 H H1 : Hp} {M : Addr → Prop} {B : Lent} {σ σ1 : L2.St} {D : Ends} {r : SR} (k : Kept H H1) (t : But ws σ σ1) (q : aftS b W H0 M B ws σ H D r) : aftS b W H0 M B ws σ1 H1 D r := by
  cases r with
  | bad => exact q
  | exc c d ρ' => exact fun cls dd σ' H' k1 t1 => q cls dd σ' H' (k.trans k1) (t.trans t1)
  | ret d ρ' => exact fun v σ' H' k1 t1 => q v σ' H' (k.trans k1) (t.trans t1)
  | nx ρ' => exact fun σ' H' k1 t1 => q σ' H' (k.trans k1) (t.trans t1)
  | brk ρ' => exact fun σ' H' k1 t1 => q σ' H' (k.trans k1) (t.trans t1)
  | cont ρ' => exact fun σ' H' k1 t1 => q σ' H' (k.trans k1) (t.trans t1)
theorem sNil : PSs X [] (tN b W ws []) := PV.PSs.imp pss_nil fun D σ H q => by
  obtain ⟨H0, M, B, ρ, G, q⟩ := q
  dsimp only at q
  rw [exSs] at q
  exact q σ H (Kept.refl H) (But.refl σ) G
theorem sCons (h1 : PS X st (t1 b W ws s)) (h2 : PSs X rest (tN b W ws ss)) : PSs X (st :: rest) (tN b W ws (s :: ss)) := by
  refine PV.PSs.imp (pss_cons h1 h2) fun D σ H q => ?_
  obtain ⟨H0, M, B, ρ, G, q⟩ := q
  dsimp only at q
  rw [exSs] at q
  refine ⟨H0, M, B, ρ, G, ?_⟩
  dsimp only
  cases h : exS b.pg b.C s ρ with
  | bad => rw [h] at q; exact q
  | exc c d ρ' => rw [h] at q; exact q
  | ret d ρ' => rw [h] at q; exact q
  | brk ρ' => rw [h] at q; exact q
  | cont ρ' => rw [h] at q; exact q
  | nx ρ1 =>
    rw [h] at q
    exact fun σ' H' k t G' => ⟨H0, M, B, ρ1, G', q.pre k t⟩
/-- an expression, then what is done with its value -/
theorem then_tm {σ : L2.St} {H : Hp} {Z : Ends} {nw : Bool} {f : PyData → Rho → SR} {K : VK} (q : tS b W ws (fun ρ => (evE b.pg b.C x ρ).then f) Z σ H)
    (w : ∀ H0 M B d ρ1 v H1, Kept H H1 → Stt b.g b.T b.ks H0 M B H1 σ ρ1 → RR b nw H0 M B H σ H1 ρ1 d v → aftS b W H0 M B ws σ H1 Z (f d ρ1) → K v H1) : tR b W nw x σ H K := by
  obtain ⟨H0, M, B, ρ, G, q⟩ := q
  dsimp only at q
  refine ⟨H0, M, B, ρ, G, ?_⟩
  cases h : evE b.pg b.C x ρ with
  | bad => rw [h] at q; exact q
  | exc c d ρ' => rw [h] at q; exact fun cls dd H' k G' => q cls dd σ H' k (But.refl σ) G'
  | ok d ρ1 =>
    rw [h] at q
    exact fun v H' k G' r => w H0 M B d ρ1 v H' k G' r (aftS.pre k (But.refl σ) q)
/-- a name of a value -/
theorem sSet (cn : Cn X b W) (hi : X.N[i]? = some nm) (hk : b.ks[i]? = some .val) (hw : ws.contains i = true) (hx : Loc X.env.scope nm) (he : PE X e (tR b W false x)) (hs : swapsWith e (some (.Name nm pos')) pos.line X.env = pure false := by rfl)
    (hf : X.fn nm = true ∨ X.env.scope.names.lookup nm = some .local := by first | exact .inl rfl | exact .inr rfl | assumption) : PS X (.Assign [.Name nm pos'] e pos) (t1 b W ws (.asg (.nm i) x)) := by
  refine PV.PS.len (ps_set cn.nd hi hx he hs hf) fun D σ H hl q => ?_
  have hlt : i < σ.length := by rw [hl]; exact (List.getElem?_eq_some_iff.mp hi).1
  have q : tS b W ws (fun ρ => (evE b.pg b.C x ρ).then fun d ρ1 => setS (.nm i) d ρ1) D σ H := by
    obtain ⟨H0, M, B, ρ, G, q⟩ := q
    exact ⟨H0, M, B, ρ, G, by dsimp only at q; rw [exS] at q; exact q⟩
  refine then_tm q fun H0 M B d ρ1 v H1 k G r a => ?_
  exact a _ H1 (Kept.refl H1) (But.set (by simpa using hw)) (G.setVal hk r.old hlt)
/-- several targets -/
theorem sTgt {tg : Tg} {target : Expr} (cn : Cn X b W) (hk : lcOk b.ks [] tg (tgSl tg) X.N.length = true) (hw : (tgSl tg).all (fun i => ws.contains i) = true) (he : PE X e (tR b W false x)) (hg : PG X target (gTg X.K tg)) (hs : swapsWithSole [target] e pos.line X.env = pure false := by rfl)
    (hsw : swappedStores [target] e X.env = pure none := by rfl) (h1 : (assignEach [target] X.env).map (·.2) = [assign target X.env] := by rfl) : PS X (.Assign [target] e pos) (t1 b W ws (.asg tg x)) := by
  refine PV.PS.len (ps_asg he hg hs hsw h1) fun D σ H hl q => ?_
  obtain ⟨_, h2, _⟩ := lcOk_by hk
  have q : tS b W ws (fun ρ => (evE b.pg b.C x ρ).then fun d ρ1 => setS tg d ρ1) D σ H := by
    obtain ⟨H0, M, B, ρ, G, q⟩ := q
    exact ⟨H0, M, B, ρ, G, by dsimp only at q; rw [exS] at q; exact q⟩
  refine then_tm q fun H0 M B d ρ1 v H1 k G r a => ?_
  unfold setS at a
  cases ht : setTg tg d ρ1 with
  | none => rw [ht] at a; exact a.elim
  | some ρ2 =>
    rw [ht] at a
    have : b.g.K = X.K := by rw [cn.g]
    rw [← this]
    refine tg_ok (fun j hj => by rw [hl]; exact h2 j hj) G r.old ht fun σ' G' bt => a σ' H1 (Kept.refl H1) (bt.mono fun j hj => ?_) G'
    have := List.all_eq_true.mp hw j hj
    simpa using this
/-- a list or dict of one's own -/
theorem own_tm {σ : L2.St} {H : Hp} {D : Ends} (hlt : i < σ.length) (hk : b.ks[i]? = some .own) (hw : ws.contains i = true) (q : t1 b W ws (.asgO i x) D σ H) : tR b W true x σ H fun v H1 => D.nx (σ.set i (some v)) H1 := by
  have q : tS b W ws (fun ρ => (evE b.pg b.C x ρ).then fun d ρ1 => if isTopD d then .nx (ρ1.set i (some d)) else .bad) D σ H := by
    obtain ⟨H0, M, B, ρ, G, q⟩ := q
    exact ⟨H0, M, B, ρ, G, by dsimp only at q; rw [exS] at q; exact q⟩
  refine then_tm q fun H0 M B d ρ1 v H1 k G r a => ?_
  unfold RR at r
  cases hd : isTopD d with
  | false => simp only [hd] at a; exact a.elim
  | true =>
    simp only [hd, Bool.and_true, if_true] at a r
    obtain ⟨p, rfl, n, t⟩ := r
    refine a _ H1 (Kept.refl H1) (But.set (by simpa using hw)) (G.setOwn hk t hlt n.m n.nb fun j w hj h1 h2 h3 => n.out ⟨j, w, h1, h2, h3⟩)
theorem sOwn (cn : Cn X b W) (hi : X.N[i]? = some nm) (hk : b.ks[i]? = some .own) (hw : ws.contains i = true) (hx : Loc X.env.scope nm) (he : PE X e (tR b W true x)) (hs : swapsWith e (some (.Name nm pos')) pos.line X.env = pure false := by rfl)
    (hf : X.fn nm = true ∨ X.env.scope.names.lookup nm = some .local := by first | exact .inl rfl | exact .inr rfl | assumption) : PS X (.Assign [.Name nm pos'] e pos) (t1 b W ws (.asgO i x)) := by
  refine PV.PS.len (ps_set cn.nd hi hx he hs hf) fun D σ H hl q => ?_
  exact own_tm (by rw [hl]; exact (List.getElem?_eq_some_iff.mp hi).1) hk hw q
/-- the new thing of a statement is frozen behind it -/
theorem PS.frzN {t : TS} (h : PS X st t) : PS X st (fun D σ H => t { D with nx := fun σ' H' => D.nx σ' H' ∨ ∃ p u, H' p = some u ∧ Mut (some u) ∧ ∀ o, D.nx σ' (upd H' p (.frz o u)) } σ H) := by
  refine ⟨fun pins s σ H D I q => ?_⟩
  refine thn (h.run pins s σ H _ I q) fun fl s1 hh => ?_
  cases fl with
  | next =>
    obtain ⟨σ', H', I', q | ⟨p, u, e, m, k⟩⟩ := hh
    · exact ⟨σ', H', I', q⟩
    · obtain ⟨od, I2⟩ := I'.lock e m
      exact ⟨σ', _, I2, k od⟩
  | brk => exact hh
  | cont => exact hh
  | ret u => exact hh
section
variable {zz : PV.X} {tg : Tg} {sk : Sk} {xs ifx : List PV.X} {vs : List Nat} {elt target iter : Expr} {ifs : List Expr} {scope : Scope} {own : List (Str × Nat)}
/-- name = [..], the name one's own -/
theorem sOwnLc {spos : Pos} (cn : Cn X b W) (hn : X.N[i]? = some nm) (hk : b.ks[i]? = some .own) (hw : ws.contains i = true) (hyl : X.env.scope.names.lookup nm = some .local)
    (hsw : swapsWith (.ListComp elt [⟨target, iter, ifs, 0⟩] scope pos) (some (.Name nm pos')) spos.line X.env = pure true)
    (hi : PI X target iter (tI b W sk xs)) (ok : BlkOk X.N X.env.scope scope own) (hv : own.map (·.2) = vs) (lk : lcOk b.ks xs tg vs X.N.length = true)
    (hg : ∀ (s : Shared) (H : Hp) (C : Addr) (cl : List (Str × Addr)) (fp : List Addr), PG (X.blk s H scope (compEnvC scope cl C X.env) fp) target (gTg X.K tg))
    (ht : ∀ (s : Shared) (H : Hp) (C : Addr) (cl : List (Str × Addr)) (fp : List Addr), Cn (X.blk s H scope (compEnvC scope cl C X.env) fp) b WF → PTs (X.blk s H scope (compEnvC scope cl C X.env) fp) ifs (tIfs b WF ifx))
    (he : ∀ (s : Shared) (H : Hp) (C : Addr) (cl : List (Str × Addr)) (fp : List Addr), Cn (X.blk s H scope (compEnvC scope cl C X.env) fp) b WF → PE (X.blk s H scope (compEnvC scope cl C X.env) fp) elt (tR b WF false zz))
    (hs : ∀ x, foldedSetIterable iter X.env x = pure x := by intro _; rfl) : PS X (.Assign [.Name nm pos'] (.ListComp elt [⟨target, iter, ifs, 0⟩] scope pos) spos) (t1 b W ws (.asgO i (.lc zz tg sk xs ifx vs))) := by
  obtain ⟨h1, h2, h3⟩ := lcOk_by lk
  refine PV.PS.len (ps_setLc cn.calm cn.nd hn hyl hsw hi ok hg (fun s H C cl fp => ht s H C cl fp (cn.blk s H scope _ fp)) (fun s H C cl fp => he s H C cl fp (cn.blk s H scope _ fp)) hs) fun D σ H hl q => ?_
  show tLc _ _ _ _ (own.map (·.2)) σ H fun v H1 => D.nx (σ.set i (some v)) H1
  rw [hv]
  exact lc_tm (by rw [cn.g]) h1 (fun j hj => by rw [hl]; exact h2 j hj) h3 (own_tm (by rw [hl]; exact (List.getElem?_eq_some_iff.mp hn).1) hk hw q)
end
/-- an expression -/
theorem sExp {nw : Bool} (he : PE X e (tR b W nw x)) (hs : swapsWith e none pos.line X.env = pure false := by rfl) : PS X (.Expr e pos) (t1 b W ws (.exp x)) := by
  refine PV.PS.imp (ps_expr he hs) fun D σ H q => ?_
  have q : tS b W ws (fun ρ => (evE b.pg b.C x ρ).then fun _ ρ1 => .nx ρ1) D σ H := by
    obtain ⟨H0, M, B, ρ, G, q⟩ := q
    exact ⟨H0, M, B, ρ, G, by dsimp only at q; rw [exS] at q; exact q⟩
  exact then_tm q fun H0 M B d ρ1 v H1 k G r a => a σ H1 (Kept.refl H1) (But.refl σ) G
theorem sRet (he : PE X e (tR b W b.fr x)) : PS X (.Return (some e) pos) (t1 b W ws (.ret x)) := by
  refine PV.PS.imp (ps_ret he) fun D σ H q => ?_
  have q : tS b W ws (fun ρ => (evE b.pg b.C x ρ).then fun d ρ1 => .ret d ρ1) D σ H := by
    obtain ⟨H0, M, B, ρ, G, q⟩ := q
    exact ⟨H0, M, B, ρ, G, by dsimp only at q; rw [exS] at q; exact q⟩
  refine then_tm q fun H0 M B d ρ1 v H1 k G r a => a v σ H1 (Kept.refl H1) (But.refl σ) G ?_
  unfold RR at r
  unfold RetR
  split
  · rename_i h
    rw [if_pos h] at r
    obtain ⟨p, e1, n, t⟩ := r
    exact ⟨p, e1, n.out, n.nb, n.m, t⟩
  · rename_i h
    rw [if_neg h] at r
    exact r
/-- one's own list or dict is the result -/
theorem sRetO (hf : b.fr = true) (hk : isOwn b.ks[i]? = true) (he : PE X e (tVar i)) : PS X (.Return (some e) pos) (t1 b W ws (.retO i)) := by
  refine PV.PS.imp (ps_ret he) fun D σ H q => ?_
  obtain ⟨H0, M, B, ρ, G, q⟩ := q
  dsimp only at q
  rw [exS] at q
  rcases slot_cases (ρ := ρ) i with ⟨d, e1⟩ | e1
  · simp only [e1] at q
    obtain ⟨p, e2, t, m, nb⟩ := G.own i d e1 hk
    refine ⟨_, e2, q _ σ H (Kept.refl H) (But.refl σ) (G.drop i) ?_⟩
    unfold RetR
    rw [t.isTop, hf]
    exact ⟨p, rfl, G.moved e1 hk e2, nb, m, t⟩
  · split at q
    · rename_i h; exact absurd h (e1 _)
    · exact q.elim
theorem sRetN : PS X (.Return none pos) (t1 b W ws .retN) := by
  refine PV.PS.imp ps_retN fun D σ H q => ?_
  obtain ⟨H0, M, B, ρ, G, q⟩ := q
  dsimp only at q
  rw [exS] at q
  exact q .non σ H (Kept.refl H) (But.refl σ) G (by unfold RetR; rw [show (isTopD PyData.none && b.fr) = false from rfl, if_neg Bool.false_ne_true, Rep])
theorem sPass : PS X (.Pass pos) (t1 b W ws .pass) := PV.PS.imp ps_pass fun D σ H q => by
  obtain ⟨H0, M, B, ρ, G, q⟩ := q
  dsimp only at q
  rw [exS] at q
  exact q σ H (Kept.refl H) (But.refl σ) G
theorem sBrk : PS X (.Break pos) (t1 b W ws .brk) := PV.PS.imp ps_break fun D σ H q => by
  obtain ⟨H0, M, B, ρ, G, q⟩ := q
  dsimp only at q
  rw [exS] at q
  exact q σ H (Kept.refl H) (But.refl σ) G
theorem sCont : PS X (.Continue pos) (t1 b W ws .cont) := PV.PS.imp ps_continue fun D σ H q => by
  obtain ⟨H0, M, B, ρ, G, q⟩ := q
  dsimp only at q
  rw [exS] at q
  exact q σ H (Kept.refl H) (But.refl σ) G
/-- if -/
theorem sIf {c : Expr} {l r : List Stmt} {sl sr : List S} (hc : PT X c (tT b W x)) (ha : PSs X l (tN b W ws sl)) (hb : PSs X r (tN b W ws sr)) : PS X (.If c l r pos) (t1 b W ws (.ite x sl sr)) := by
  refine PV.PS.imp (ps_if hc ha hb) fun D σ H q => ?_
  obtain ⟨H0, M, B, ρ, G, q⟩ := q
  dsimp only at q
  rw [exS] at q
  refine ⟨H0, M, B, ρ, G, ?_⟩
  cases h : asBool (evE b.pg b.C x ρ) with
  | bad => rw [h] at q; exact q
  | exc c d ρ' => rw [h] at q; exact fun cls dd H' k G' => q cls dd σ H' k (But.refl σ) G'
  | ok t ρ1 =>
    rw [h] at q
    intro H1 k G1
    cases t with
    | true => exact ⟨H0, M, B, ρ1, G1, aftS.pre k (But.refl σ) q⟩
    | false => exact ⟨H0, M, B, ρ1, G1, aftS.pre k (But.refl σ) q⟩

/-! ### stores -/
/-- a value, then a reading that goes on -/
theorem val_tm {σ : L2.St} {H0 H1 : Hp} {M : Addr → Prop} {B : Lent} {Z : Ends} {nw : Bool} {f : PyData → Rho → SR} {K : VK} {ρ : Rho} (G : Stt b.g b.T b.ks H0 M B H1 σ ρ) (q : aftS b W H0 M B ws σ H1 Z ((evE b.pg b.C x ρ).then f))
    (w : ∀ d ρ1 v H2, Kept H1 H2 → Stt b.g b.T b.ks H0 M B H2 σ ρ1 → RR b nw H0 M B H1 σ H2 ρ1 d v → aftS b W H0 M B ws σ H2 Z (f d ρ1) → K v H2) : tR b W nw x σ H1 K := by
  refine ⟨H0, M, B, ρ, G, ?_⟩
  cases h : evE b.pg b.C x ρ with
  | bad => rw [h] at q; exact q
  | exc c d ρ' => rw [h] at q; exact fun cls dd H' k G' => q cls dd σ H' k (But.refl σ) G'
  | ok d ρ1 =>
    rw [h] at q
    exact fun v H' k G' r => w d ρ1 v H' k G' r (aftS.pre k (But.refl σ) q)
/-- one's own thing, stored into -/
theorem put_tm {σ : L2.St} {H0 H : Hp} {M : Addr → Prop} {B : Lent} {Z : Ends} {ρ : Rho} (cn : Cn X b W) (hk : isOwn b.ks[i]? = true) (G : Stt b.g b.T b.ks H0 M B H σ ρ) {p : Addr} (hp : σ[i]? = some (some (.ref p))) {dx dv : PyData} {vx vv : V} (rx : Rep b.g H dx vx) (rv : Rep b.g H dv vv)
    (q : aftS b W H0 M B ws σ H Z (match ρ[i]? with
      | some (some o) => (match PV.putAt o dx dv with
        | some o' => .nx (ρ.set i (some o'))
        | none => .bad)
      | _ => .bad)) : rPut (wd X) (.ref p) vx vv H fun H3 => Z.nx σ H3 := by
  split at q
  · rename_i o e
    obtain ⟨p', e2, t, _⟩ := G.own i o e hk
    rw [hp] at e2
    cases e2
    split at q
    · rename_i o' ho
      refine ⟨p, o, dx, dv, o', rfl, by rw [← cn.g]; exact t, by rw [← cn.g]; exact rx, by rw [← cn.g]; exact rv, ho, fun ob t2 => ?_⟩
      rw [← cn.g] at t2
      exact q σ _ (Kept.put t.mut) (But.refl σ) (G.write e hk hp t2)
    · exact q.elim
  · exact q.elim
/-- o[k] = e -/
theorem sSetI {o k : Expr} {tpos : Pos} (cn : Cn X b W) (hk : isOwn b.ks[i]? = true) (ho : PE X o (tVar i)) (hkey : PE X k (tR b W false y)) (he : PE X e (tR b W false x)) (hs : swapsWithSole [.Subscript o k tpos] e pos.line X.env = pure false := by rfl) (hsw : swappedStores [.Subscript o k tpos] e X.env = pure none := by rfl)
    (h1 : (assignEach [.Subscript o k tpos] X.env).map (·.2) = [assign (.Subscript o k tpos) X.env] := by rfl)
    (ha : ∀ v, assign (.Subscript o k tpos) X.env v = (do
      let ov ← holding [v] (eval o X.env)
      let iv ← holding [v, ov] (eval k X.env)
      standAt tpos
      holding [v, ov, iv] (setItem ov iv v)
      release [v, ov, iv] []) := by intro _; rfl) : PS X (.Assign [.Subscript o k tpos] e pos) (t1 b W ws (.setI i y x)) := by
  refine PV.PS.imp (ps_asg he (pg_sub ho hkey (set_put cn.u65) ha) hs hsw h1) fun D σ H q => ?_
  obtain ⟨H0, M, B, ρ, G, q⟩ := q
  dsimp only at q
  rw [exS] at q
  show tR b W false x σ H fun v H1 => tVar i σ H1 fun o H1 => tR b W false y σ H1 fun kk H2 => rPut (wd X) o kk v H2 fun H3 => D.nx σ H3
  refine val_tm (H1 := H) G q fun d ρ1 v H1 k1 G1 r1 q1 => ?_
  rcases slot_cases (ρ := ρ1) i with ⟨w, e1⟩ | e1
  · simp only [e1] at q1
    obtain ⟨p, e2, _⟩ := G1.own i w e1 hk
    refine ⟨_, e2, val_tm (H1 := H1) G1 q1 fun dk ρ2 vk H2 k2 G2 r2 q2 => ?_⟩
    exact put_tm cn hk G2 e2 r2.old (Rep.mono k2 d r1.old) q2
  · split at q1
    · rename_i h; exact absurd h (e1 _)
    · exact q1.elim

/-! ### op= -/
theorem augI_int {o : Op} {u w z : PyData} (h : augOp o u w = some z) : ∃ i j, u = .int i ∧ w = .int j ∧ ((o = .add ∧ z = .int (i + j)) ∨ (o = .sub ∧ z = .int (i - j))) := by
  unfold augOp at h
  split at h
  · cases h; exact ⟨_, _, rfl, rfl, .inl ⟨rfl, rfl⟩⟩
  · cases h; exact ⟨_, _, rfl, rfl, .inr ⟨rfl, rfl⟩⟩
  · cases h
/-- the operators that are served -/
def ipOf (g : Wd) (o : Op) : TIp := fun u w H Q => ∃ d e z, Rep g H d u ∧ Rep g H e w ∧ augOp o d e = some z ∧ ∀ v, Rep g H z v → Q v H
theorem ipAdd : PIp X .Add (ipOf (wd X) .add) := by
  intro pins s σ H u w v t Q I ru rt h
  obtain ⟨d, e, z, r1, r2, h, q⟩ := h
  obtain ⟨i, j, rfl, rfl, ⟨_, rfl⟩ | ⟨h, _⟩⟩ := augI_int h
  · rw [Rep] at r1 r2
    exact ip_add pins s σ H u w v t Q I ru rt ⟨i, j, r1, r2, q _ (by rw [Rep])⟩
  · cases h
theorem ipSub : PIp X .Sub (ipOf (wd X) .sub) := by
  intro pins s σ H u w v t Q I ru rt h
  obtain ⟨d, e, z, r1, r2, h, q⟩ := h
  obtain ⟨i, j, rfl, rfl, ⟨h, _⟩ | ⟨_, rfl⟩⟩ := augI_int h
  · cases h
  · rw [Rep] at r1 r2
    exact ip_sub pins s σ H u w v t Q I ru rt ⟨i, j, r1, r2, q _ (by rw [Rep])⟩
/-- name op= e -/
theorem sAug {o : Op} {op : Operator} (cn : Cn X b W) (hp : PIp X op (ipOf (wd X) o)) (hi : X.N[i]? = some nm) (hk : b.ks[i]? = some .val) (hw : ws.contains i = true) (hx : Loc X.env.scope nm) (he : PE X e (tR b W false x))
    (hf : X.fn nm = true ∨ X.env.scope.names.lookup nm = some .local := by first | exact .inl rfl | exact .inr rfl | assumption) : PS X (.AugAssign (.Name nm pos') op e pos) (t1 b W ws (.aug i o x)) := by
  refine PV.PS.len (ps_aug cn.nd hi hx he hp hf) fun D σ H hl q => ?_
  have hlt : i < σ.length := by rw [hl]; exact (List.getElem?_eq_some_iff.mp hi).1
  obtain ⟨H0, M, B, ρ, G, q⟩ := q
  dsimp only at q
  rw [exS] at q
  rcases slot_cases (ρ := ρ) i with ⟨w, e1⟩ | e1
  · simp only [e1] at q
    obtain ⟨u, e2, r⟩ := G.val i w e1 hk
    refine ⟨u, e2, val_tm (H1 := H) G q fun d ρ1 v H1 k1 G1 r1 q1 => ?_⟩
    cases ha : augOp o w d with
    | none => simp only [ha] at q1; exact q1.elim
    | some z =>
      simp only [ha] at q1
      refine ⟨w, d, z, by rw [← cn.g]; exact Rep.mono k1 w r, by rw [← cn.g]; exact r1.old, ha, fun v' rz => ?_⟩
      rw [← cn.g] at rz
      exact q1 _ H1 (Kept.refl H1) (But.set (by simpa using hw)) (G1.setVal hk rz hlt)
  · split at q
    · rename_i h; exact absurd h (e1 _)
    · exact q.elim
/-- o[k], by values -/
theorem getD' (cn : Cn X b W) : PGet X (fun u w H Q => ∃ l e z, isTopD l = true ∧ BReps (wd X) H [l, e] [u, w] ∧ prim .idx [l, e] = some z ∧ ∀ v H', Same H H' → Res (wd X) false H H' z v → Q v H') := by
  intro pins s σ H o i ov iv Q I ro ri h
  obtain ⟨d, e, z, ht, hb, hp, k⟩ := h
  obtain ⟨v1, t1, ez, h1, v2, t2, ez2, h2, _⟩ := hb
  cases ez
  cases ez2
  cases d with
  | dict kvs =>
    obtain ⟨hf, hz⟩ := if_opt (show (if keyFits e kvs = true then dlook e kvs else none) = some z from by cases e <;> exact hp)
    obtain ⟨a, o, rfl, q, r⟩ := ask_b h1 h2 hf
    rw [hz] at r
    cases o with
    | none => exact r.elim
    | some w =>
      cases (show ov = Value.ref a from ro)
      exact ask_item (by have := cn.u65; omega) I q ri fun w' s' I' rw' => ⟨w, H, I', rw', k _ _ (same_refl H) (.old r)⟩
  | list es =>
    cases e <;> try (exact noD z hp)
    rename_i j
    have hp : atI es j = some z := hp
    obtain ⟨a, vs, rfl, s1, r1⟩ := h1.lst
    cases h2.int
    obtain ⟨w, e1, r2⟩ := r1.atI hp
    cases (show ov = Value.ref a from ro)
    obtain ⟨t, rfl⟩ := ri
    obtain ⟨its, rv, pl, hz⟩ := I.list s1.sq
    obtain ⟨n, h1, h2, h3, h4, h5⟩ := atI_get e1
    obtain ⟨y, ey, ry⟩ := rv.get h2
    have hl := rv.length
    have hn := line63
    have fin : EP X pins σ Q y s := ⟨w, H, I, ry, k _ _ (same_refl H) (.old r2)⟩
    by_cases h0 : 0 ≤ j
    · have hj : j.toNat = n := by
        rw [seqIndex_of h0 h5] at h1
        exact Option.some.inj h1
      exact wpAny_getItem_list pl.isList h0 (by omega) (by rw [hj]; simpa using ey) fin
    · have hj : (j + (its.toArray.size : Int)).toNat = n := by
        rw [seqIndex_neg (by omega) h4] at h1
        rw [List.size_toArray, ← hl]
        exact Option.some.inj h1
      exact wpAny_getItem_list_neg pl.isList (by omega) (by rw [List.size_toArray]; omega) (by omega) (by rw [hj]; simpa using ey) fin
  | _ => cases ht
/-- o[k] op= e -/
theorem sAugI {op : Operator} {oo : Op} {o k : Expr} {tpos : Pos} (cn : Cn X b W) (hp : PIp X op (ipOf (wd X) oo)) (hk : isOwn b.ks[i]? = true) (ho : PE X o (tVar i)) (hkey : PE X k (tR b W false y)) (he : PE X e (tR b W false x))
    (ha : ∀ ov iv new, augStore k ov iv new = (do holding [new, ov, iv] (setItem ov iv new); release [new, ov, iv] []; pure .next) := by intros; rfl) : PS X (.AugAssign (.Subscript o k tpos) op e pos) (t1 b W ws (.augI i y oo x)) := by
  refine PV.PS.imp (ps_augS ho hkey (getD' cn) he hp (set_put cn.u65) ha) fun D σ H q => ?_
  obtain ⟨H0, M, B, ρ, G, q⟩ := q
  dsimp only at q
  rw [exS] at q
  rcases slot_cases (ρ := ρ) i with ⟨w, e1⟩ | e1
  · simp only [e1] at q
    obtain ⟨p, e2, _⟩ := G.own i w e1 hk
    refine ⟨_, e2, val_tm (H1 := H) G q fun dk ρ1 vk H1 k1 G1 r1 q1 => ?_⟩
    rcases slot_cases (ρ := ρ1) i with ⟨l, e3⟩ | e3
    · simp only [e3] at q1
      obtain ⟨p', e4, t, _⟩ := G1.own i l e3 hk
      rw [e2] at e4
      cases e4
      cases hy : prim .idx [l, dk] with
      | none => simp only [hy] at q1; exact q1.elim
      | some dy =>
        simp only [hy] at q1
        refine ⟨l, dk, dy, t.isTop, ⟨.ref p, [vk], rfl, .inr ⟨p, rfl, by rw [← cn.g]; exact t⟩, vk, [], rfl, .inl (by rw [← cn.g]; exact r1.old), rfl⟩, hy, fun vy H2 s2 ry => ?_⟩
        have k2 := Kept.of_same s2
        have ry : Rep (wd X) H2 dy vy := by
          unfold Res at ry
          rw [Bool.and_false, if_neg Bool.false_ne_true] at ry
          exact ry
        refine val_tm (H1 := H2) (G1.same s2) (aftS.pre k2 (But.refl σ) q1) fun de ρ2 ve H3 k3 G3 r3 q3 => ?_
        cases hu : augOp oo dy de with
        | none => simp only [hu] at q3; exact q3.elim
        | some du =>
          simp only [hu] at q3
          refine ⟨dy, de, du, Rep.mono k3 dy ry, by rw [← cn.g]; exact r3.old, hu, fun vu ru => ?_⟩
          rw [← cn.g] at ru
          exact put_tm cn hk G3 e2 (Rep.mono (k2.trans k3) dk r1.old) ru q3
    · split at q1
      · rename_i h; exact absurd h (e3 _)
      · exact q1.elim
  · split at q
    · rename_i h; exact absurd h (e1 _)
    · exact q.elim
end
end PV

set_option maxHeartbeats 4000000
/-! PV11: loops. -/
namespace PV
open PySem L2

section
variable {X : Cx} {b : Bd} {W : WX} {ws ws' : List Nat} {body : List Stmt} {ss : List S} {e iter target c : Expr} {x : PV.X} {xs : List PV.X} {tg : Tg} {sk : Sk} {pos : Pos}
/-- what a loop's slots are: those of the target are written, the lent one is not -/
def forOk (ks : List Kd) (xs : List PV.X) (tg : Tg) (ws ws' : List Nat) (n : Nat) : Bool :=
  (tgSl tg).all (fun i => ws'.contains i && decide (ks[i]? = some .val) && decide (i < n)) && ws'.all (fun i => ws.contains i) && (match lentOf xs with | some i => isOwn ks[i]? && !ws'.contains i | none => true)
theorem forOk_by {ks : List Kd} {n : Nat} (h : forOk ks xs tg ws ws' n = true) : (∀ i ∈ tgSl tg, i ∈ ws' ∧ ks[i]? = some .val ∧ i < n) ∧ (∀ i ∈ ws', i ∈ ws) ∧ ∀ i, lentOf xs = some i → isOwn ks[i]? = true ∧ i ∉ ws' := by
  unfold forOk at h
  simp only [Bool.and_eq_true, List.all_eq_true, decide_eq_true_eq] at h
  refine ⟨fun i hi => ?_, fun i hi => by simpa using h.1.2 i hi, fun i hi => ?_⟩
  · obtain ⟨⟨a1, a2⟩, a3⟩ := h.1.1 i hi
    exact ⟨by simpa using a1, a2, a3⟩
  · have := h.2
    rw [hi] at this
    simp only [Bool.and_eq_true, Bool.not_eq_true'] at this
    exact ⟨this.1, by simpa using this.2⟩
theorem for_tm {σ : L2.St} {H : Hp} {D : Ends} (gX : b.g.K = X.K) (hl : σ.length = X.N.length) (lk : forOk b.ks xs tg ws ws' X.N.length = true) (q : t1 b W ws (.for_ tg sk xs ss) D σ H) : tFor (tI b W sk xs) (gTg X.K tg) (tN b W ws' ss) D σ H := by
  obtain ⟨h1, h2, h3⟩ := forOk_by lk
  obtain ⟨H0, M, B, ρ, G, q⟩ := q
  dsimp only at q
  rw [exS] at q
  refine ⟨H0, M, B, ρ, G, ?_⟩
  cases he : evOs b.pg b.C xs ρ with
  | bad => rw [he] at q; exact q
  | exc c d ρ' => rw [he] at q; exact fun cls dd H' k G' => q cls dd σ H' k (But.refl σ) G'
  | ok os ρ1 =>
    rw [he] at q
    simp only [R.then] at q
    cases hs : see ρ1 os with
    | none => simp only [hs] at q; exact q.elim
    | some ds0 =>
      cases hi : srcOf sk ds0 with
      | none => simp only [hs, hi] at q; exact q.elim
      | some items =>
        simp only [hs, hi] at q
        generalize hf : (fun r => exSs b.pg b.C ss r) = f at q
        generalize hR : forL f tg items (hide ρ1 (lentOf xs)) = RS at q
        refine ⟨ds0, items, hs, hi, fun J H1 k1 G1 wk => ?_⟩
        generalize hN : OwnAt b.ks σ (hide ρ1 (lentOf xs)) = N at wk
        generalize hB1 : B.put b.ks σ ρ1 (hide ρ1 (lentOf xs)) = B1
        have Gr : Stt b.g b.T b.ks H1 N B1 H1 σ (hide ρ1 (lentOf xs)) := by
          rw [← hN, ← hB1]
          exact G1.rebase hide_len fun i d h => (hide_none h).1
        -- behind the loop
        have out : ∀ {σ' : L2.St} {H' : Hp} {ρ' : Rho}, Kept H1 H' → But ws' σ σ' → Stt b.g b.T b.ks H1 N B1 H' σ' ρ' → Stt b.g b.T b.ks H0 M B H' σ' (unhide ρ1 (lentOf xs) ρ') := fun {σ' H' ρ'} k t G' => by
          rw [← hN, ← hB1] at G'
          refine G1.unbase (ρ₁ := hide ρ1 (lentOf xs)) (fun j d h => (hide_none h).1) G' k unhide_len fun j d h => ?_
          rcases unhide_get h with ⟨_, h5⟩ | ⟨h4, h5⟩
          · exact .inl h5
          · obtain ⟨ho, hn⟩ := h3 j h4
            exact .inr ⟨h5, ho, by rw [h4]; exact hide_at h5, t.2 j hn⟩
        have wide : ∀ {σ' : L2.St}, But ws' σ σ' → But ws σ σ' := fun t => t.mono h2
        have retO : ∀ {σ' : L2.St} {H' : Hp} {ρ' : Rho} {d : PyData} {v : V}, Stt b.g b.T b.ks H1 N B1 H' σ' ρ' → But ws' σ σ' → RetR b H1 N B1 H' σ' ρ' d v → RetR b H0 M B H' σ' (unhide ρ1 (lentOf xs) ρ') d v := fun {σ' H' ρ' d v} G' t r => by
          unfold RetR at r ⊢
          split
          · rename_i hc
            rw [if_pos hc] at r
            obtain ⟨p, e1, no, nb, m, tp⟩ := r
            refine ⟨p, e1, ?_, fun z => nb (by rw [← hB1]; exact .inl z), ?_, tp⟩
            · rintro ⟨j, w, j1, j2, j3⟩
              rcases unhide_get j1 with ⟨_, h5⟩ | ⟨h4, h5⟩
              · exact no ⟨j, w, h5, j2, j3⟩
              · obtain ⟨ho, hn⟩ := h3 j h4
                rw [t.2 j hn] at j3
                refine nb (by
                  rw [← hB1]
                  refine .inr ⟨⟨j, w, h5, j2, j3⟩, ?_⟩
                  rintro ⟨l, u, l1, l2, l3⟩
                  obtain ⟨l4, l5⟩ := hide_none l1
                  exact G1.apart j l w u p (fun z => l5 (by rw [h4, z])) h5 l4 j2 l2 j3 l3)
            · rcases m with m | m
              · rw [← hN] at m
                obtain ⟨l, u, l1, l2, l3⟩ := m
                exact (G1.ownM p ⟨l, u, (hide_none l1).1, l2, l3⟩).1
              · exact G1.new0 m
          · rename_i hc
            rw [if_neg hc] at r
            exact r
        refine ⟨fun i m σ' H' => m = items.length - i ∧ i ≤ items.length ∧ ∃ ρ', Kept H1 H' ∧ But ws' σ σ' ∧ Stt b.g b.T b.ks H1 N B1 H' σ' ρ' ∧ forL f tg (items.drop i) ρ' = RS,
          ⟨items.length, by simp, Nat.zero_le _, _, Kept.refl H1, But.refl σ, Gr, hR⟩, ?_⟩
        rintro i m σ2 H2 ⟨rfl, hle, ρ2, k2, t2, G2, hr⟩
        have fr : ∀ a o, H1 a = some o → ¬ N a → (∀ ps, o ≠ .tbl ps) → H2 a = some o := G2.frame
        by_cases hlt : i < items.length
        · have hd : items[i]? = some items[i] := List.getElem?_eq_getElem hlt
          obtain ⟨go, yl⟩ := wk.go i H2 _ k2 fr hd
          refine .inr ⟨go, fun σ3 H3 => ∃ ρ', Kept H1 H3 ∧ But ws' σ σ3 ∧ Stt b.g b.T b.ks H1 N B1 H3 σ3 ρ' ∧ forL f tg (items.drop (i + 1)) ρ' = RS, fun σ3 H3 h => ⟨items.length - (i + 1), by omega, rfl, hlt, h⟩, fun v H3 hy => ?_⟩
          obtain ⟨s3, rx⟩ := yl v H3 hy
          have k3 := Kept.of_same s3
          have G3 := G2.same s3
          rw [List.drop_eq_getElem_cons hlt] at hr
          unfold forL at hr
          cases ht : setTg tg items[i] ρ2 with
          | none =>
            simp only [ht] at hr
            rw [← hr] at q
            exact q.elim
          | some ρt =>
            simp only [ht] at hr
            rw [← gX]
            refine tg_ok (fun j hj => ?_) G3 rx ht fun σ4 G4 b4 => ?_
            · obtain ⟨_, a1, a2⟩ := h1 j hj
              exact ⟨a1, by rw [t2.1, hl]; exact a2⟩
            have t4 : But ws' σ σ4 := t2.trans (b4.mono fun j hj => (h1 j hj).1)
            refine ⟨H1, N, B1, ρt, G4, ?_⟩
            have ef : exSs b.pg b.C ss ρt = f ρt := by rw [← hf]
            dsimp only
            rw [ef]
            have k13 := k2.trans k3
            cases h5 : f ρt with
            | bad =>
              rw [h5] at hr
              rw [← hr] at q
              exact q.elim
            | nx ρ5 =>
              rw [h5] at hr
              exact fun σ5 H5 k5 t5 G5 => ⟨ρ5, k13.trans k5, t4.trans t5, G5, hr⟩
            | cont ρ5 =>
              rw [h5] at hr
              exact fun σ5 H5 k5 t5 G5 => ⟨ρ5, k13.trans k5, t4.trans t5, G5, hr⟩
            | brk ρ5 =>
              rw [h5] at hr
              rw [← hr] at q
              exact fun σ5 H5 k5 t5 G5 => q σ5 H5 (k1.trans (k13.trans k5)) (wide (t4.trans t5)) (out (k13.trans k5) (t4.trans t5) G5)
            | ret d ρ5 =>
              rw [h5] at hr
              rw [← hr] at q
              exact fun v σ5 H5 k5 t5 G5 r5 => q v σ5 H5 (k1.trans (k13.trans k5)) (wide (t4.trans t5)) (out (k13.trans k5) (t4.trans t5) G5) (retO G5 (t4.trans t5) r5)
            | exc c d ρ5 =>
              rw [h5] at hr
              rw [← hr] at q
              exact fun cls dd σ5 H5 k5 t5 G5 r5 => q cls dd σ5 H5 (k1.trans (k13.trans k5)) (wide (t4.trans t5)) (out (k13.trans k5) (t4.trans t5) G5) r5
        · have ei : i = items.length := by omega
          refine .inl ⟨wk.stop i H2 k2 fr (by omega), ?_⟩
          rw [ei, List.drop_length] at hr
          unfold forL at hr
          rw [← hr] at q
          exact q σ2 H2 (k1.trans k2) (wide t2) (out k2 t2 G2)
/-- for target in .. -/
theorem sFor (cn : Cn X b W) (lk : forOk b.ks xs tg ws ws' X.N.length = true) (hi : PI X target iter (tI b W sk xs)) (hg : PG X target (gTg X.K tg)) (hb : PSs X body (tN b W ws' ss))
    (hs : ∀ x, foldedSetIterable iter X.env x = pure x := by intro _; rfl) : PS X (.For target iter body [] pos) (t1 b W ws (.for_ tg sk xs ss)) :=
  PV.PS.len (ps_for cn.pass cn.calm hi hg hb hs) fun D σ H hl q => for_tm (by rw [cn.g]) hl lk q
/-- while -/
theorem sWhile (cn : Cn X b W) (hc : PT X c (tT b W x)) (hb : PSs X body (tN b W ws ss)) : PS X (.While c body [] pos) (t1 b W ws (.while_ x ss)) := by
  refine PV.PS.imp (ps_while cn.pass hc hb) fun D σ H q => ?_
  obtain ⟨H0, M, B, ρ, G, q⟩ := q
  dsimp only at q
  rw [exS] at q
  generalize hf : (fun r => exSs b.pg b.C ss r) = f at q
  generalize hc : (fun r => asBool (evE b.pg b.C x r)) = cc at q
  generalize wfuel = n at q
  generalize hR : whileL cc f n ρ = RS at q
  refine ⟨fun m σ' H' => ∃ ρ', Kept H H' ∧ But ws σ σ' ∧ Stt b.g b.T b.ks H0 M B H' σ' ρ' ∧ whileL cc f m ρ' = RS, ⟨n, ρ, Kept.refl H, But.refl σ, G, hR⟩, ?_⟩
  rintro m σ1 H1 ⟨ρ1, k1, t1, G1, hr⟩
  cases m with
  | zero =>
    unfold whileL at hr
    rw [← hr] at q
    exact q.elim
  | succ m =>
    unfold whileL at hr
    refine ⟨H0, M, B, ρ1, G1, ?_⟩
    have ec : asBool (evE b.pg b.C x ρ1) = cc ρ1 := by rw [← hc]
    rw [ec]
    cases h2 : cc ρ1 with
    | bad =>
      rw [h2] at hr
      rw [← hr] at q
      exact q.elim
    | exc c d ρ' =>
      rw [h2] at hr
      rw [← hr] at q
      exact fun cls dd H' k G' => q cls dd σ1 H' (k1.trans k) t1 G'
    | ok t ρ2 =>
      rw [h2] at hr
      intro H2 k2 G2
      cases t with
      | false =>
        rw [if_neg Bool.false_ne_true]
        simp only [R.then, if_neg Bool.false_ne_true] at hr
        rw [← hr] at q
        exact q σ1 H2 (k1.trans k2) t1 G2
      | true =>
        rw [if_pos rfl]
        simp only [R.then, if_true] at hr
        refine ⟨fun σ3 H3 => ∃ ρ', Kept H H3 ∧ But ws σ σ3 ∧ Stt b.g b.T b.ks H0 M B H3 σ3 ρ' ∧ whileL cc f m ρ' = RS, fun σ3 H3 h => ⟨m, Nat.lt_succ_self m, h⟩, H0, M, B, ρ2, G2, ?_⟩
        have ef : exSs b.pg b.C ss ρ2 = f ρ2 := by rw [← hf]
        dsimp only
        rw [ef]
        have k12 := k1.trans k2
        cases h5 : f ρ2 with
        | bad =>
          rw [h5] at hr
          rw [← hr] at q
          exact q.elim
        | nx ρ5 =>
          rw [h5] at hr
          exact fun σ5 H5 k5 t5 G5 => ⟨ρ5, k12.trans k5, t1.trans t5, G5, hr⟩
        | cont ρ5 =>
          rw [h5] at hr
          exact fun σ5 H5 k5 t5 G5 => ⟨ρ5, k12.trans k5, t1.trans t5, G5, hr⟩
        | brk ρ5 =>
          rw [h5] at hr
          rw [← hr] at q
          exact fun σ5 H5 k5 t5 G5 => q σ5 H5 (k12.trans k5) (t1.trans t5) G5
        | ret d ρ5 =>
          rw [h5] at hr
          rw [← hr] at q
          exact fun v σ5 H5 k5 t5 G5 r5 => q v σ5 H5 (k12.trans k5) (t1.trans t5) G5 r5
        | exc c d ρ5 =>
          rw [h5] at hr
          rw [← hr] at q
          exact fun cls dd σ5 H5 k5 t5 G5 r5 => q cls dd σ5 H5 (k12.trans k5) (t1.trans t5) G5 r5
end
end PV

set_option maxHeartbeats 4000000
/-! PV12: what a def promises; calls. -/
namespace PV
open PySem L2

/-! ### promises where no guard stands -/
/-- a def's promise, kept wherever no guard (of a repr) stands -/
structure FnG (P : Program) (w : World) (K : PySem.W.Frag) (mg : Str → Option Value) (base : Heap) (k : Nat) (f : Addr) (fd : FuncData) (ps : List Str) (sp : Sp) : Prop where
  len : ∀ vs H Q E, sp vs H Q E → vs.length = ps.length
  run : ∀ (A : Around) (outer : List Env) (s : Shared) (H : Hp) (args : Args) (us : List Value) (vs : List V) (Q : VK) (E : XK), Room k A → A.guards = some [] → Env0 P w K mg base A outer s H → BindsTo s fd args (ps.zip us) → Vals vs us → sp vs H Q E →
    codeAny (model P w) A (.call (.ref f) args) (L2.CR (L2.CX P w) outer P w H s Q E) s
theorem FnG.mono {P : Program} {w : World} {K : PySem.W.Frag} {mg : Str → Option Value} {base : Heap} {j k : Nat} {f : Addr} {fd : FuncData} {ps : List Str} {sp : Sp} (F : FnG P w K mg base j f fd ps sp) (h : j ≤ k) : FnG P w K mg base k f fd ps sp :=
  ⟨F.len, fun A outer s H args us vs Q E hr hg => F.run A outer s H args us vs Q E (hr.mono h) hg⟩
/-- by the body -/
theorem fnG_of {P : Program} {w : World} {K : PySem.W.Frag} {mg : Str → Option Value} {base : Heap} {k : Nat} {f : Addr} {x qual : Str} {st : Stmt} {fd : FuncData} {N ps : List Str} {sp : Sp} (F : L2.Fun K x qual st f fd) (S : FnScope N ps (defScope st))
    (len : ∀ vs H Q E, sp vs H Q E → vs.length = ps.length)
    (hbody : ∀ (cdv : Value) (A : Around) (outer : List Env) (s : Shared) (H : Hp) (vs : List V) (Q : VK) (E : XK), Room k (A.deeper (PyProof.Rows.envOfC qual (defScope st) s.heap.objs.size f cdv)) → A.guards = some [] → fd.code = cdv → sp vs H Q E →
      ∃ t, PSs (cxOf (L2.CX P w) P w K mg base N qual (defScope st) f cdv A outer s H E) (defBody st) t ∧ t { nx := fun _ H' => Q .non H', rt := Q } (start N vs) H) : FnG P w K mg base (k + 1) f fd ps sp := by
  obtain ⟨oc, od, kV, doc, pm, an, cdv, ct, osl, rfl, lk, hcd⟩ := F.ex
  refine ⟨len, fun A outer s H args us vs Q E hr hg e0 hb r hsp => ?_⟩
  have inK : K.In s.heap := e0.mod.kin.keeps fun b o e => (e0.bs b o e).1
  have params : ∀ y ∈ ps.zip us, (defScope st).names.lookup y.1 = some .local ∨ ((defScope st).names.lookup y.1 = some .cell ∧ ((cellsFrom (s.heap.objs.size + 1) (defScope st).names []).lookup y.1).isSome = true) := by
    rintro ⟨n, v⟩ hy
    cases S.par n (List.of_mem_zip hy).1 with
    | inl q => exact .inl q
    | inr q => exact .inr ⟨q, PySem.W.cellsFrom_some _ _ _ (.inl q)⟩
  refine PySem.codeAny_call_function hr.depth (inK _ _ lk) rfl S.co S.gen rfl (PySem.W.codeRec_of inK hcd) (hb _ _ _ _ (PySem.wpAny_newFunctionEnv_cells S.kind params ?_))
  intro env he s1 x
  subst he
  refine ⟨(e0.mod.nolimit.keeps fun b o e => (e0.bs b o e).1).keeps x.toInCall.keep, codeAny_func ?_⟩
  obtain ⟨t, ht, hq⟩ := hbody cdv A outer s H vs Q E (hr.deeper _) hg rfl hsp
  have I := inv_start (CX := L2.CX P w) (cd := cdv) (f := f) (qual := qual) (E := E) S hr.hd e0 (len _ _ _ _ hsp) r x
  refine wpAny_mono (ht.run [] s1 (start N vs) H _ I hq) (fun fl s' hs => ?_) fun e s' hs => hs
  cases fl with
  | ret u => obtain ⟨v, σ', H', J, rv, q⟩ := hs; exact ⟨v, H', J.os, J.bare, J.base, J.hok, rv, q⟩
  | next => obtain ⟨σ', H', J, q⟩ := hs; exact ⟨.non, H', J.os, J.bare, J.base, J.hok, rfl, q⟩
  | brk => obtain ⟨_, _, _, q⟩ := hs; exact q.elim
  | cont => obtain ⟨_, _, _, q⟩ := hs; exact q.elim
section
variable {X : Cx} {W : WX} {k : Nat} {f : Addr} {fd : FuncData} {ps : List Str} {sp : Sp} {x : Str} {p pos : Pos} {e : Expr} {es : List Expr} {t : TA}
theorem runG {pins : List (Addr × Obj)} {σ : L2.St} {H : Hp} {s : Shared} {Q : VK} {us : List Value} {vs : List V} (F : FnG X.prog X.w X.K X.mg X.base k f fd ps sp) (hr : Room k X.A) (hg : X.A.guards = some []) (hb : L2.Binds X.K fd ps []) (tk : Takes X W)
    (I : L2.Inv X pins σ H s) (r : Vals vs us) (h : sp vs H Q (WE W σ)) : wpAny (model X.prog X.w) X.A (call (.ref f) us) (EP X pins σ Q) X.xe s := by
  have n : us.length = ps.length := r.length.symm.trans (F.len _ _ _ _ h)
  have bd := hb s us I.kIn (by rw [List.append_nil]; exact n)
  rw [List.append_nil] at bd
  refine wpAny_call (codeAny_mono (F.run X.A X.stack s H ⟨us, []⟩ us vs Q (WE W σ) hr hg I.env0 bd r h) ?_)
  intro res s' hq
  match res, hq with
  | .error e, hq => exact passAt tk σ pins H s e s' I hq
  | .ok (.ret u), hq => exact I.after hq
theorem pe_callG (F : FnG X.prog X.w X.K X.mg X.base k f fd ps sp) (hr : Room k X.A) (hg : X.A.guards = some []) (tk : Takes X W) (gl : Gl X x) (hm : X.mg x = some (.ref f)) (hk : PySem.W.keepIn X.K (.ref f) = true) (hb : L2.Binds X.K fd ps [])
    (ha : PA X (e :: es) t) (he : starEach (e :: es) X.env = (false, eval e X.env) :: starEach es X.env) (hdb : (x == ("__debug__" : Str)) = false := by decide) (hpl : (backTo pos (starEach es X.env)).any (·.1) = false := by rfl) :
    PE X (.Call (.Name x p) (e :: es) [] pos) (fun σ H Q => t σ H fun vs H1 => sp vs H1 Q (WE W σ)) := by
  constructor
  intro pins s σ H Q I h
  exact wpAny_Call_Name_kw (ld_glob I gl hm (PySem.W.callWith_K (h₀ := X.base) I.ok.mod.kin hk (thn (ha.run pos pins s σ H _ I h) fun us s1 ⟨vs, H1, I1, r, q⟩ => ⟨I1.kIn, runG F hr hg hb tk I1 r q⟩) he hpl) hdb)
end

/-! ### the promise of a def that the evaluator tells -/
/-- the arguments -/
def ArgsOk (g : Wd) (H : Hp) : List Kd → List PyData → List V → Prop
  | [], [], [] => True
  | k :: ks, d :: ds, v :: vs => (match k with
    | .val => Rep g H d v
    | .bor => BRep g H d v
    | .inn => ∃ p, v = .ref p ∧ Top g H p d
    | .own => False) ∧ ArgsOk g H ks ds vs
  | _, _, _ => False
/-- what is given to be changed stands apart -/
def ApartA (g : Wd) (H : Hp) (pk : List Kd) (ds : List PyData) (vs : List V) : Prop := ∀ (i j : Nat) (p : Addr), i ≠ j → pk[i]? = some .inn → vs[i]? = some (.ref p) →
  (pk[j]? = some .inn → vs[j]? ≠ some (.ref p)) ∧ (pk[j]? = some .bor → ∀ d, ds[j]? = some d → Rep g H d (.ref p) ∨ vs[j]? ≠ some (.ref p))
/-- the things that were given, behind -/
def GivenOk (g : Wd) (H : Hp) : List Kd → List V → List PyData → Prop
  | [], _, ms => ms = []
  | _ :: _, [], _ => False
  | k :: ks, v :: vs, ms => match k with
    | .inn => ∃ p m r, v = .ref p ∧ ms = m :: r ∧ Top g H p m ∧ GivenOk g H ks vs r
    | _ => GivenOk g H ks vs ms
/-- given to be changed -/
def InnAt (pk : List Kd) (vs : List V) (a : Addr) : Prop := ∃ i : Nat, pk[i]? = some .inn ∧ vs[i]? = some (.ref a)
/-- behind a call, whichever way -/
structure Aft (g : Wd) (T : List (Addr × Str)) (pk : List Kd) (vs : List V) (ms : List PyData) (H H' : Hp) : Prop where
  kept : Kept H H'
  tabs : LamX.Tabs T H'
  frT : ∀ a ps, H a = some (.tbl ps) → ∃ ps', H' a = some (.tbl ps')
  frame : ∀ a o, H a = some o → ¬ InnAt pk vs a → (∀ ps, o ≠ .tbl ps) → H' a = some o
  given : GivenOk g H' pk vs ms
def ResG (g : Wd) (fr : Bool) (H H' : Hp) (d : PyData) (v : V) : Prop := if (isTopD d && fr) = true then ∃ p, v = .ref p ∧ H p = none ∧ Top g H' p d else Rep g H' d v
def spF (g : Wd) (T : List (Addr × Str)) (EC : Nat → Option (Addr × Str)) (pk : List Kd) (fr : Bool) (C : List PyData → CR) : Sp := fun vs H Q E => ∃ ds, ArgsOk g H pk ds vs ∧ ApartA g H pk ds vs ∧ LamX.Tabs T H ∧
  match C ds with
  | .ret d ms => ∀ v H', Aft g T pk vs ms H H' → ResG g fr H H' d v → Q v H'
  | .exc c d ms => ∀ cls dd H', Aft g T pk vs ms H H' → ExR g EC H' c d cls dd → E cls dd H'
  | .bad => False
theorem ArgsOk.len {g : Wd} {H : Hp} : ∀ {pk : List Kd} {ds : List PyData} {vs : List V}, ArgsOk g H pk ds vs → ds.length = pk.length ∧ vs.length = pk.length
  | [], [], [], _ => ⟨rfl, rfl⟩
  | k :: pk, d :: ds, v :: vs, h => by
    obtain ⟨h1, h2⟩ := ArgsOk.len h.2
    exact ⟨by simp [h1], by simp [h2]⟩
  | [], _ :: _, _, h => h.elim
  | [], [], _ :: _, h => h.elim
  | _ :: _, [], _, h => h.elim
  | _ :: _, _ :: _, [], h => h.elim
theorem ArgsOk.get {g : Wd} {H : Hp} : ∀ {pk : List Kd} {ds : List PyData} {vs : List V} {i : Nat} {k : Kd}, ArgsOk g H pk ds vs → pk[i]? = some k → ∃ d v, ds[i]? = some d ∧ vs[i]? = some v ∧ (match k with
    | .val => Rep g H d v
    | .bor => BRep g H d v
    | .inn => ∃ p, v = .ref p ∧ Top g H p d
    | .own => False)
  | [], _, _, i, k, _, e => by simp at e
  | k0 :: pk, d :: ds, v :: vs, 0, k, h, e => by
    have : k0 = k := by simpa using e
    subst this
    exact ⟨d, v, rfl, rfl, h.1⟩
  | k0 :: pk, d :: ds, v :: vs, i + 1, k, h, e => by
    obtain ⟨d', v', h1, h2, h3⟩ := ArgsOk.get (i := i) (k := k) h.2 (by simpa using e)
    exact ⟨d', v', by simpa using h1, by simpa using h2, h3⟩
  | _ :: _, [], _, _, _, h, _ => h.elim
  | _ :: _, _ :: _, [], _, _, h, _ => h.elim

/-! ### a body keeps the promise -/
def lentOfArgs (g : Wd) (H : Hp) (pk : List Kd) (ds : List PyData) (vs : List V) : Lent :=
  ⟨fun a => ∃ (i : Nat) (d : PyData), pk[i]? = some .bor ∧ ds[i]? = some d ∧ vs[i]? = some (.ref a) ∧ ¬ Rep g H d (.ref a),
    fun i => if pk[i]? = some .bor then (match ds[i]?, vs[i]? with
      | some d, some v => some (d, v)
      | _, _ => none) else none⟩
theorem startR_get {ds : List PyData} {m i : Nat} {d : PyData} (h : (ds.map some ++ List.replicate m none)[i]? = some (some d)) : ds[i]? = some d := by
  by_cases hi : i < ds.length
  · rw [List.getElem?_append_left (by simpa using hi), List.getElem?_map] at h
    cases q : ds[i]? with
    | none => rw [q] at h; cases h
    | some x => rw [q] at h; exact congrArg some (Option.some.inj (Option.some.inj h))
  · rw [List.getElem?_append_right (by simpa using hi), List.getElem?_replicate] at h
    split at h <;> cases h
theorem start_get {vs : List V} {N : List Str} {i : Nat} {v : V} (h : vs[i]? = some v) : (L2.start N vs)[i]? = some (some v) := by
  unfold L2.start
  rw [List.getElem?_append_left (by simpa using (List.getElem?_eq_some_iff.mp h).1), List.getElem?_map, h]
  rfl
theorem Stt.entry {g : Wd} {T : List (Addr × Str)} {ks pk : List Kd} {H : Hp} {N : List Str} {np : Nat} {ds : List PyData} {vs : List V} (hk : ks.take np = pk) (hn : pk.length = np) (hN : np ≤ N.length) (A : ArgsOk g H pk ds vs) (P : ApartA g H pk ds vs) (tb : LamX.Tabs T H) :
    Stt g T ks H (InnAt pk vs) (lentOfArgs g H pk ds vs) H (L2.start N vs) (ds.map some ++ List.replicate (N.length - ds.length) none) := by
  obtain ⟨l1, l2⟩ := A.len
  have kk : ∀ {i : Nat} {d : PyData} {k : Kd}, ds[i]? = some d → ks[i]? = some k → pk[i]? = some k := fun {i d k} h1 h2 => by
    have : i < np := by
      have := (List.getElem?_eq_some_iff.mp h1).1
      omega
    rw [← hk, List.getElem?_take_of_lt this]; exact h2
  have own : ∀ {i : Nat} {d : PyData}, ds[i]? = some d → isOwn ks[i]? = true → ∃ p, vs[i]? = some (.ref p) ∧ Top g H p d ∧ pk[i]? = some .inn := fun {i d} h1 h2 => by
    cases q : ks[i]? with
    | none => rw [q] at h2; cases h2
    | some k =>
      have pk' := kk h1 q
      obtain ⟨d', v, e1, e2, r⟩ := A.get pk'
      rw [h1] at e1
      cases e1
      rw [q] at h2
      cases k with
      | val => cases h2
      | bor => cases h2
      | own => exact r.elim
      | inn => obtain ⟨p, rfl, t⟩ := r; exact ⟨p, e2, t, pk'⟩
  refine ⟨?_, fun a o h _ _ => h, fun i d h1 h2 => ?_, fun i d h1 h2 => ?_, fun i d h1 h2 => ?_, fun i j d e p hne h1 h2 h3 h4 h5 h6 => ?_, fun i d h => ?_, fun p hp => ?_, fun i d v h => ?_, tb, fun a ps h => ⟨ps, h⟩⟩
  · unfold L2.start
    rw [List.length_append, List.length_append, List.length_map, List.length_map, List.length_replicate, List.length_replicate]
    omega
  · have e := startR_get h1
    obtain ⟨d', v, e1, e2, r⟩ := A.get (kk e h2)
    rw [e] at e1
    cases e1
    exact ⟨v, start_get e2, r⟩
  · have e := startR_get h1
    have pk' := kk e h2
    obtain ⟨d', v, e1, e2, r⟩ := A.get pk'
    rw [e] at e1
    cases e1
    refine ⟨v, start_get e2, ?_⟩
    show (if pk[i]? = some .bor then _ else none) = _
    rw [if_pos pk', e, e2]
  · have e := startR_get h1
    obtain ⟨p, e2, t, pk'⟩ := own e h2
    refine ⟨p, start_get e2, t, .inl ⟨i, pk', e2⟩, ?_⟩
    rintro ⟨j, d', j1, j2, j3, j4⟩
    have hne : i ≠ j := by
      rintro rfl
      rw [pk'] at j1; cases j1
    rcases (P i j p hne pk' e2).2 j1 d' j2 with z | z
    · exact j4 z
    · exact z j3
  · have e1 := startR_get h1
    have e2 := startR_get h2
    obtain ⟨p1, a1, _, b1⟩ := own e1 h3
    obtain ⟨p2, a2, _, b2⟩ := own e2 h4
    rw [start_get a1] at h5
    rw [start_get a2] at h6
    cases h5
    cases h6
    exact (P i j _ hne b1 a1).1 b2 a2
  · have e := startR_get h
    have hi : i < pk.length := by
      have := (List.getElem?_eq_some_iff.mp e).1
      omega
    have : ∃ k, pk[i]? = some k := ⟨pk[i], List.getElem?_eq_getElem hi⟩
    obtain ⟨k, hk2⟩ := this
    refine ⟨k, ?_⟩
    rw [← hk, List.getElem?_take_of_lt (by omega)] at hk2
    exact hk2
  · obtain ⟨i, d, i1, i2, i3, i4⟩ := hp
    obtain ⟨d', v, e1, e2, r⟩ := A.get i1
    rw [i2] at e1
    cases e1
    rw [i3] at e2
    cases e2
    rcases r with r | ⟨p', e, t⟩
    · exact absurd r i4
    · cases e
      exact t.there
  · have h : (if pk[i]? = some .bor then (match ds[i]?, vs[i]? with
      | some d, some v => some (d, v)
      | _, _ => none) else none) = some (d, v) := h
    by_cases c : pk[i]? = some .bor
    · rw [if_pos c] at h
      obtain ⟨d', v', e1, e2, r⟩ := A.get c
      rw [e1, e2] at h
      cases h
      by_cases hr : Rep g H d v
      · exact .inl hr
      · rcases r with r | ⟨p, rfl, t⟩
        · exact absurd r hr
        · exact .inr ⟨p, rfl, t, i, d, c, e1, e2, hr⟩
    · rw [if_neg c] at h; cases h
/-- the given things at the end -/
theorem given_of {g : Wd} {T : List (Addr × Str)} {ks : List Kd} {H0 H' : Hp} {M : Addr → Prop} {B : Lent} {σ' : L2.St} {ρ' : Rho} (G : Stt g T ks H0 M B H' σ' ρ') : ∀ {pk : List Kd} {vs : List V} {ms : List PyData} (n : Nat), (∀ i k, pk[i]? = some k → ks[n + i]? = some k) → vs.length = pk.length →
    (∀ i, pk[i]? = some .inn → ∀ v, vs[i]? = some v → σ'[n + i]? = some (some v)) → givenOf pk (ρ'.drop n) = some ms → GivenOk g H' pk vs ms
  | [], vs, ms, n, _, _, _, h => by cases h; rfl
  | k :: pk, [], ms, n, _, hl, _, h => by cases hl
  | k :: pk, v :: vs, ms, n, hk, hl, hs, h => by
    have ih := fun ms h => given_of (pk := pk) (vs := vs) (ms := ms) G (n + 1) (fun i k e => by
      have := hk (i + 1) k (by simpa using e)
      rw [show n + 1 + i = n + (i + 1) by omega]; exact this) (by simpa using hl) (fun i e v' e2 => by
      have := hs (i + 1) (by simpa using e) v' (by simpa using e2)
      rw [show n + 1 + i = n + (i + 1) by omega]; exact this) h
    have dr : (ρ'.drop n).tail = ρ'.drop (n + 1) := by rw [List.tail_drop]
    cases k with
    | inn =>
      have h : (match ρ'.drop n with
        | some d :: r => (givenOf pk r).map (d :: ·)
        | _ => none) = some ms := h
      cases q : ρ'.drop n with
      | nil => rw [q] at h; cases h
      | cons o r =>
        rw [q] at h
        cases o with
        | none => cases h
        | some d =>
          have h : (givenOf pk r).map (d :: ·) = some ms := h
          obtain ⟨ms', h1, h2⟩ := Option.map_eq_some_iff.mp h
          have er : r = ρ'.drop (n + 1) := by rw [← dr, q]; rfl
          have ed : ρ'[n]? = some (some d) := by
            have : (ρ'.drop n)[0]? = some (some d) := by rw [q]; rfl
            rw [List.getElem?_drop] at this
            simpa using this
          have kn : ks[n]? = some .inn := by simpa using hk 0 .inn rfl
          obtain ⟨p, e1, t, _⟩ := G.own n d ed (by rw [kn]; rfl)
          have := hs 0 rfl v rfl
          rw [show n + 0 = n from rfl, e1] at this
          cases this
          exact ⟨p, d, ms', rfl, h2.symm, t, ih ms' (by rw [← er]; exact h1)⟩
    | val => exact ih ms (by rw [← dr]; exact h)
    | bor => exact ih ms (by rw [← dr]; exact h)
    | own => exact ih ms (by rw [← dr]; exact h)
/-- every given thing's slot is full at the end -/
theorem given_full : ∀ {pk : List Kd} {ρ : Rho} {ms : List PyData} {i : Nat}, givenOf pk ρ = some ms → pk[i]? = some .inn → ∃ d, ρ[i]? = some (some d)
  | [], _, _, i, _, e => by simp at e
  | k :: pk, ρ, ms, 0, h, e => by
    have : k = .inn := by simpa using e
    subst this
    cases ρ with
    | nil => cases h
    | cons o r =>
      cases o with
      | none => cases h
      | some d => exact ⟨d, rfl⟩
  | k :: pk, ρ, ms, i + 1, h, e => by
    have e : pk[i]? = some .inn := by simpa using e
    cases k with
    | inn =>
      cases ρ with
      | nil => cases h
      | cons o r =>
        cases o with
        | none => cases h
        | some d =>
          have h : (givenOf pk r).map (d :: ·) = some ms := h
          obtain ⟨ms', h1, h2⟩ := Option.map_eq_some_iff.mp h
          obtain ⟨d', h3⟩ := given_full h1 e
          exact ⟨d', by simpa using h3⟩
    | _ =>
      obtain ⟨d', h3⟩ := given_full (ρ := ρ.tail) h e
      refine ⟨d', ?_⟩
      cases ρ with
      | nil => simp at h3
      | cons o r => simpa using h3
/-- which slots a body may write -/
def wsOk (ks : List Kd) (ws : List Nat) : Bool := ws.all fun i => match ks[i]? with
  | some .inn => false
  | some .bor => false
  | _ => true
theorem aft_of {g : Wd} {T : List (Addr × Str)} {ks pk : List Kd} {ws : List Nat} {H H' : Hp} {B : Lent} {np : Nat} {N : List Str} {vs : List V} {ms : List PyData} {σ' : L2.St} {ρ' : Rho} (hk : ks.take np = pk) (hv : vs.length = pk.length) (hws : wsOk ks ws = true) (G : Stt g T ks H (InnAt pk vs) B H' σ' ρ') (k : Kept H H') (t : But ws (L2.start N vs) σ') (hg : givenOf pk ρ' = some ms) :
    Aft g T pk vs ms H H' := by
  have kk : ∀ i k, pk[i]? = some k → ks[0 + i]? = some k := fun i k e => by
    rw [Nat.zero_add]
    rw [← hk] at e
    by_cases hi : i < np
    · rw [List.getElem?_take_of_lt hi] at e; exact e
    · rw [List.getElem?_eq_none (by rw [List.length_take]; omega)] at e; cases e
  refine ⟨k, G.tabs, G.frT, G.frame, given_of G 0 kk hv (fun i e v e2 => ?_) (by simpa using hg)⟩
  rw [Nat.zero_add, ← start_get (N := N) e2]
  refine t.2 i fun hi => ?_
  have := List.all_eq_true.mp hws i hi
  have e3 := kk i _ e
  rw [Nat.zero_add] at e3
  rw [e3] at this
  cases this

theorem RetR.res {b : Bd} {H H' : Hp} {pk : List Kd} {vs : List V} {B : Lent} {σ' : L2.St} {ρ' : Rho} {d : PyData} {v : V} (full : ∀ i : Nat, pk[i]? = some .inn → ∃ d, ρ'[i]? = some (some d)) (kk : ∀ (i : Nat) (k : Kd), pk[i]? = some k → b.ks[i]? = some k)
    (sg : ∀ i : Nat, pk[i]? = some .inn → ∀ v, vs[i]? = some v → σ'[i]? = some (some v)) (r : RetR b H (InnAt pk vs) B H' σ' ρ' d v) : ResG b.g b.fr H H' d v := by
  unfold RetR at r
  unfold ResG
  split
  · rename_i h
    rw [if_pos h] at r
    obtain ⟨p, e, no, _, m, t⟩ := r
    refine ⟨p, e, ?_, t⟩
    rcases m with ⟨i, i1, i2⟩ | m
    · obtain ⟨d, hd⟩ := full i i1
      exact absurd ⟨i, d, hd, by rw [kk i _ i1]; rfl, sg i i1 _ i2⟩ no
    · exact m
  · rename_i h
    rw [if_neg h] at r
    exact r
/-- a def of the text: its body's term gives its promise one level up -/
theorem fn_body {P : Program} {w : World} {K : PySem.W.Frag} {mg : Str → Option Value} {base : Heap} {f : Addr} {x qual : Str} {st : Stmt} {fd : FuncData} {N ps : List Str} {b : Bd} {pk : List Kd} {ws : List Nat} {code : List S} {C' : List PyData → CR}
    (F : L2.Fun K x qual st f fd) (S : FnScope N ps (defScope st)) (hg : b.g = ⟨P, w, K⟩) (hk : b.ks.take ps.length = pk) (hn : pk.length = ps.length) (hN : ps.length ≤ N.length) (hws : wsOk b.ks ws = true) (hF : b.F P w K mg base)
    (hC : ∀ ds, ds.length = ps.length → C' ds = (match exSs b.pg b.C code (ds.map some ++ List.replicate (N.length - ds.length) none) with
      | .nx ρ => (match givenOf pk ρ with
        | some ms => .ret .none ms
        | none => .bad)
      | .ret d ρ => (match givenOf pk ρ with
        | some ms => .ret d ms
        | none => .bad)
      | .exc c d ρ => (match givenOf pk ρ with
        | some ms => .exc c d ms
        | none => .bad)
      | _ => .bad))
    (hb : ∀ (cdv : Value) (A : Around) (outer : List Env) (s : Shared) (H : Hp) (E : XK), fd.code = cdv → Cn (cxOf (L2.CX P w) P w K mg base N qual (defScope st) f cdv A outer s H E) b (fun cls dd _ H' => E cls dd H') →
      PSs (cxOf (L2.CX P w) P w K mg base N qual (defScope st) f cdv A outer s H E) (defBody st) (tN b (fun cls dd _ H' => E cls dd H') ws code)) :
    FnG P w K mg base (b.k + 1) f fd ps (spF b.g b.T b.EC pk b.fr C') := by
  refine fnG_of F S (fun vs H Q E ⟨ds, A, _⟩ => A.len.2.trans hn) fun cdv A outer s H vs Q E hr hgd hcv hsp => ?_
  obtain ⟨ds, hA, hP, hT, hq⟩ := hsp
  obtain ⟨l1, l2⟩ := hA.len
  refine ⟨_, hb cdv A outer s H E hcv ⟨hg, rfl, S.nd, hr, hgd, passes_of rfl, takes_of rfl rfl rfl rfl, hF⟩, ?_⟩
  have hN' : N.length = N.length := rfl
  refine ⟨H, InnAt pk vs, lentOfArgs b.g H pk ds vs, _, Stt.entry hk hn hN hA hP hT, ?_⟩
  dsimp only
  rw [hC ds (l1.trans hn)] at hq
  have kk : ∀ (i : Nat) (k : Kd), pk[i]? = some k → b.ks[i]? = some k := fun i k e => by
    rw [← hk] at e
    by_cases hi : i < ps.length
    · rw [List.getElem?_take_of_lt hi] at e; exact e
    · rw [List.getElem?_eq_none (by rw [List.length_take]; omega)] at e; cases e
  have sg : ∀ {σ' : L2.St}, But ws (L2.start N vs) σ' → ∀ i : Nat, pk[i]? = some .inn → ∀ v, vs[i]? = some v → σ'[i]? = some (some v) := fun {σ'} t i e v e2 => by
    rw [← start_get (N := N) e2]
    refine t.2 i fun hi => ?_
    have := List.all_eq_true.mp hws i hi
    rw [kk i _ e] at this
    cases this
  cases hx : exSs b.pg b.C code (ds.map some ++ List.replicate (N.length - ds.length) none) with
  | bad => rw [hx] at hq; exact hq.elim
  | brk ρ => rw [hx] at hq; exact hq.elim
  | cont ρ => rw [hx] at hq; exact hq.elim
  | nx ρ =>
    simp only [hx] at hq
    cases hm : givenOf pk ρ with
    | none => simp only [hm] at hq
    | some ms =>
      simp only [hm] at hq
      exact fun σ' H' k t G => hq .non H' (aft_of hk l2 hws G k t hm) (by unfold ResG; rw [show (isTopD PyData.none && b.fr) = false from rfl, if_neg Bool.false_ne_true, Rep])
  | ret d ρ =>
    simp only [hx] at hq
    cases hm : givenOf pk ρ with
    | none => simp only [hm] at hq
    | some ms =>
      simp only [hm] at hq
      exact fun v σ' H' k t G r => hq v H' (aft_of hk l2 hws G k t hm) (RetR.res (fun i e => given_full hm e) kk (sg t) r)
  | exc c d ρ =>
    simp only [hx] at hq
    cases hm : givenOf pk ρ with
    | none => simp only [hm] at hq
    | some ms =>
      simp only [hm] at hq
      exact fun cls dd σ' H' k t G r => hq cls dd H' (aft_of hk l2 hws G k t hm) r

/-! ### calls -/
/-- what is known of the text's defs -/
def CallsF (pg : Pg) (C : Orc) (EC : Nat → Option (Addr × Str)) (T : List (Addr × Str)) (k : Nat) : Program → World → PySem.W.Frag → (Str → Option Value) → Heap → Prop := fun P w K mg base => ∀ (f : Nat) (fi : Fi), pg.T[f]? = some fi →
  ∃ (a : Addr) (fd : FuncData), mg fi.name = some (.ref a) ∧ L2.Fun K fi.name fi.name fi.st a fd ∧ L2.Binds K fd (fi.N.take fi.np) [] ∧ FnG P w K mg base k a fd (fi.N.take fi.np) (spF ⟨P, w, K⟩ T EC (fi.ks.take fi.np) fi.fresh (C f))
def slotOf : X → Option Nat
  | .own i => some i
  | .bor i => some i
  | _ => none
/-- how arguments stand to parameters -/
def argB (ks : List Kd) : List Kd → List X → Bool
  | [], [] => true
  | k :: pk, a :: as => (match k with
    | .val => !isPlace a
    | .bor => true
    | .inn => (match a with
      | .own i => isOwn ks[i]?
      | _ => false)
    | .own => false) && argB ks pk as
  | _, _ => false
def apB (as : List X) : Bool := decide (List.Pairwise (fun a a' => slotOf a = none ∨ slotOf a ≠ slotOf a') as)
section
variable {g : Wd} {T : List (Addr × Str)} {ks : List Kd} {H0 H H' : Hp} {M : Addr → Prop} {B : Lent} {σ : L2.St} {ρ : Rho}
/-- each argument -/
theorem args_of (G : Stt g T ks H0 M B H σ ρ) : ∀ {pk : List Kd} {as : List X} {os : List O} {ds : List PyData} {vs : List V}, argB ks pk as = true → OpOf as os → see ρ os = some ds → RepOs g H σ os vs → ArgsOk g H pk ds vs
  | [], [], [], ds, vs, _, _, hs, hr => by
    cases hs
    have hr : vs = [] := hr
    subst hr
    trivial
  | k :: pk, a :: as, o :: os, ds, vs, hb, hO, hs, hr => by
    obtain ⟨v, r, rfl, r1, r2⟩ := hr
    unfold see at hs
    cases q1 : seeO ρ o with
    | none => rw [q1] at hs; cases hs
    | some d =>
      cases q2 : see ρ os with
      | none => rw [q1, q2] at hs; cases hs
      | some es =>
        rw [q1, q2] at hs
        cases hs
        unfold argB at hb
        rw [Bool.and_eq_true] at hb
        refine ⟨?_, args_of G hb.2 hO.2 q2 r2⟩
        have brep : BRep g H d v := by
          cases o with
          | inl x =>
            have e : x = d := by simpa [seeO] using q1
            exact .inl (e ▸ r1)
          | inr i =>
            obtain ⟨u, e1, rr⟩ := G.read (seeO_inr q1)
            have e2 : σ[i]? = some (some v) := r1
            rw [e2] at e1
            cases e1
            exact rr
        cases k with
        | val =>
          have hp : isPlace a = false := by simpa using hb.1
          have : ∃ d', o = .inl d' := by
            have h0 := hO.1
            cases a <;> first | exact h0 | cases hp
          obtain ⟨d', rfl⟩ := this
          have e : d' = d := by simpa [seeO] using q1
          subst e
          exact r1
        | bor => exact brep
        | own => cases hb.1
        | inn =>
          cases a with
          | own i =>
            have ho : o = .inr i := hO.1
            subst ho
            obtain ⟨p, e1, t, _⟩ := G.own i d (seeO_inr q1) hb.1
            have e2 : σ[i]? = some (some v) := r1
            rw [e2] at e1
            cases e1
            exact ⟨p, rfl, t⟩
          | _ => cases hb.1
  | [], [], _ :: _, _, _, _, h, _, _ => h.elim
  | [], _ :: _, _, _, _, h, _, _, _ => by cases h
  | _ :: _, [], _, _, _, h, _, _, _ => by cases h
  | _ :: _, _ :: _, [], _, _, _, h, _, _ => h.elim
/-- the j-th argument -/
theorem arg_at : ∀ {pk : List Kd} {as : List X} {os : List O} {ds : List PyData} {vs : List V} {j : Nat} {k : Kd}, argB ks pk as = true → OpOf as os → see ρ os = some ds → RepOs g H σ os vs → pk[j]? = some k →
    ∃ a o d v, as[j]? = some a ∧ os[j]? = some o ∧ ds[j]? = some d ∧ vs[j]? = some v ∧ OpOf [a] [o] ∧ seeO ρ o = some d ∧ RepO g H σ o v ∧ argB ks [k] [a] = true
  | k0 :: pk, a :: as, o :: os, ds, vs, j, k, hb, hO, hs, hr, hk => by
    obtain ⟨v, r, rfl, r1, r2⟩ := hr
    unfold see at hs
    cases q1 : seeO ρ o with
    | none => rw [q1] at hs; cases hs
    | some d =>
      cases q2 : see ρ os with
      | none => rw [q1, q2] at hs; cases hs
      | some es =>
        rw [q1, q2] at hs
        cases hs
        unfold argB at hb
        rw [Bool.and_eq_true] at hb
        cases j with
        | zero =>
          have e : k0 = k := by simpa using hk
          subst e
          refine ⟨a, o, d, v, rfl, rfl, rfl, rfl, ⟨hO.1, trivial⟩, q1, r1, ?_⟩
          unfold argB
          rw [Bool.and_eq_true]
          exact ⟨hb.1, rfl⟩
        | succ j =>
          obtain ⟨a', o', d', v', h1, h2, h3, h4, h5⟩ := arg_at (j := j) hb.2 hO.2 q2 r2 (by simpa using hk)
          exact ⟨a', o', d', v', by simpa using h1, by simpa using h2, by simpa using h3, by simpa using h4, h5⟩
  | [], _, _, _, _, _, _, _, _, _, _, h => by simp at h
  | _ :: _, [], _, _, _, _, _, h, _, _, _, _ => by cases h
  | _ :: _, _ :: _, [], _, _, _, _, _, h, _, _, _ => h.elim
theorem ap_at {as : List X} (h : apB as = true) {i j : Nat} {a a' : X} (hne : i ≠ j) (hi : as[i]? = some a) (hj : as[j]? = some a') : slotOf a = none ∨ slotOf a ≠ slotOf a' := by
  have p := of_decide_eq_true h
  rw [List.pairwise_iff_getElem] at p
  obtain ⟨i1, i2⟩ := List.getElem?_eq_some_iff.mp hi
  obtain ⟨j1, j2⟩ := List.getElem?_eq_some_iff.mp hj
  rcases Nat.lt_or_gt_of_ne hne with c | c
  · have := p i j i1 j1 c
    rw [i2, j2] at this
    exact this
  · have := p j i j1 i1 c
    rw [i2, j2] at this
    rcases this with z | z
    · by_cases q : slotOf a = none
      · exact .inl q
      · exact .inr fun e => q (e.trans z)
    · exact .inr fun e => z e.symm
theorem apart_of (G : Stt g T ks H0 M B H σ ρ) {pk : List Kd} {as : List X} {os : List O} {ds : List PyData} {vs : List V} (hb : argB ks pk as = true) (ha : apB as = true) (hO : OpOf as os) (hs : see ρ os = some ds) (hr : RepOs g H σ os vs) : ApartA g H pk ds vs := by
  intro i j p hne hi hv
  obtain ⟨a, o, d, v, a1, o1, d1, v1, oo, se, ro, ab⟩ := arg_at hb hO hs hr hi
  rw [hv] at v1
  cases v1
  -- the i-th one is a slot of one's own
  have : ∃ s, a = .own s ∧ isOwn ks[s]? = true := by
    unfold argB at ab
    cases a with
    | own s => exact ⟨s, rfl, by simpa [argB] using ab⟩
    | _ => simp [argB] at ab
  obtain ⟨s, rfl, hks⟩ := this
  have eo : o = .inr s := oo.1
  subst eo
  have es : σ[s]? = some (some (.ref p)) := ro
  have er := seeO_inr se
  refine ⟨fun hj hv2 => ?_, fun hj d2 hd2 => ?_⟩
  · obtain ⟨a', o', d', v', a2, o2, d2, v2, oo2, se2, ro2, ab2⟩ := arg_at hb hO hs hr hj
    rw [hv2] at v2
    cases v2
    have : ∃ u, a' = .own u ∧ isOwn ks[u]? = true := by
      cases a' with
      | own u => exact ⟨u, rfl, by simpa [argB] using ab2⟩
      | _ => simp [argB] at ab2
    obtain ⟨u, rfl, hku⟩ := this
    have eo : o' = .inr u := oo2.1
    subst eo
    have hsu : s ≠ u := by
      rcases ap_at ha hne a1 a2 with z | z
      · cases z
      · exact fun e => z (by rw [e])
    exact G.apart s u d d' p hsu er (seeO_inr se2) hks hku es ro2
  · obtain ⟨a', o', d', v', a2, o2, d3, v2, oo2, se2, ro2, ab2⟩ := arg_at hb hO hs hr hj
    rw [hd2] at d3
    cases d3
    by_cases hv2 : vs[j]? = some (.ref p)
    · refine .inl ?_
      rw [hv2] at v2
      cases v2
      have byslot : ∀ u, slotOf a' = some u → o' = .inr u → Rep g H d2 (.ref p) := fun u hu eo => by
        subst eo
        have er2 := seeO_inr se2
        have es2 : σ[u]? = some (some (.ref p)) := ro2
        have hsu : s ≠ u := by
          rcases ap_at ha hne a1 a2 with z | z
          · cases z
          · rw [hu] at z
            exact fun e => z (by rw [e]; rfl)
        obtain ⟨k, hk⟩ := G.kinds u d2 er2
        have no : isOwn ks[u]? = true → False := fun h => G.apart s u d d2 p hsu er er2 hks h es es2
        cases k with
        | val => obtain ⟨w, e3, r⟩ := G.val u d2 er2 hk; rw [es2] at e3; cases e3; exact r
        | bor =>
          obtain ⟨w, e3, b⟩ := G.bor u d2 er2 hk
          rw [es2] at e3
          cases e3
          rcases G.bsl u d2 _ b with r | ⟨p2, e4, t, bp⟩
          · exact r
          · cases e4
            exact absurd bp (G.ownM p ⟨s, d, er, hks, es⟩).2
        | own => exact (no (by rw [hk]; rfl)).elim
        | inn => exact (no (by rw [hk]; rfl)).elim
      cases a' with
      | own u => exact byslot u rfl oo2.1
      | bor u => exact byslot u rfl oo2.1
      | _ =>
        obtain ⟨dd, eo⟩ := oo2.1
        subst eo
        have : dd = d2 := by simpa [seeO] using se2
        subst this
        exact ro2
    · exact .inr hv2
theorem putBack_get : ∀ {give : List (Option Nat)} {ms : List PyData} {ρ ρ' : Rho}, putBack give ms ρ = some ρ' → ρ'.length = ρ.length ∧ ∀ (i : Nat) (d : PyData), ρ'[i]? = some (some d) → (some i ∉ give ∧ ρ[i]? = some (some d)) ∨ ∃ n : Nat, give[n]? = some (some i) ∧ ms[n]? = some d ∧ i < ρ.length
  | [], [], ρ, ρ', h => by
    cases h
    exact ⟨rfl, fun i d e => .inl ⟨by simp, e⟩⟩
  | [], _ :: _, _, _, h => by cases h
  | none :: r, [], _, _, h => by cases h
  | some _ :: r, [], _, _, h => by cases h
  | none :: r, m :: ms, ρ, ρ', h => by
    obtain ⟨l, f⟩ := putBack_get (show putBack r ms ρ = some ρ' from h)
    refine ⟨l, fun i d e => ?_⟩
    rcases f i d e with ⟨h1, h2⟩ | ⟨n, h1, h2, h3⟩
    · exact .inl ⟨by simpa using h1, h2⟩
    · exact .inr ⟨n + 1, by simpa using h1, by simpa using h2, h3⟩
  | some j :: r, m :: ms, ρ, ρ', h => by
    obtain ⟨l, f⟩ := putBack_get (show putBack r ms (ρ.set j (some m)) = some ρ' from h)
    rw [List.length_set] at l
    refine ⟨l, fun i d e => ?_⟩
    rcases f i d e with ⟨h1, h2⟩ | ⟨n, h1, h2, h3⟩
    · by_cases q : j = i
      · subst q
        by_cases hl : j < ρ.length
        · rw [List.getElem?_set_self hl] at h2
          exact .inr ⟨0, rfl, by injection h2, hl⟩
        · rw [List.getElem?_eq_none (by rw [List.length_set]; omega)] at h2; cases h2
      · rw [List.getElem?_set_ne q] at h2
        refine .inl ⟨?_, h2⟩
        simp only [List.mem_cons, Option.some.injEq, not_or]
        exact ⟨Ne.symm q, h1⟩
    · rw [List.length_set] at h3
      exact .inr ⟨n + 1, by simpa using h1, by simpa using h2, h3⟩
theorem give_mem : ∀ {pk : List Kd} {as : List X} {j s : Nat}, pk[j]? = some .inn → as[j]? = some (.own s) → some s ∈ giveOf pk as
  | [], _, _, _, h, _ => by simp at h
  | _ :: _, [], _, _, _, h => by simp at h
  | k :: pk, a :: as, 0, s, h, h2 => by
    have e1 : k = .inn := by simpa using h
    have e2 : a = .own s := by simpa using h2
    subst e1 e2
    simp [giveOf]
  | k :: pk, a :: as, j + 1, s, h, h2 => by
    have ih := give_mem (pk := pk) (as := as) (j := j) (s := s) (by simpa using h) (by simpa using h2)
    unfold giveOf
    cases k with
    | inn => exact List.mem_cons_of_mem _ ih
    | _ => exact ih
theorem given_get {g : Wd} {H' : Hp} : ∀ {pk : List Kd} {as : List X} {vs : List V} {ms : List PyData} {n i : Nat} {d : PyData}, GivenOk g H' pk vs ms → (giveOf pk as)[n]? = some (some i) → ms[n]? = some d →
    ∃ (j : Nat) (p : Addr), as[j]? = some (.own i) ∧ pk[j]? = some .inn ∧ vs[j]? = some (.ref p) ∧ Top g H' p d
  | [], as, _, _, _, _, _, _, h, _ => by cases as <;> simp [giveOf] at h
  | _ :: _, [], _, _, _, _, _, _, h, _ => by simp [giveOf] at h
  | _ :: _, _ :: _, [], _, _, _, _, h, _, _ => h.elim
  | k :: pk, a :: as, v :: vs, ms, n, i, d, hg, h, hm => by
    have other : GivenOk g H' pk vs ms → (giveOf pk as)[n]? = some (some i) → ∃ (j : Nat) (p : Addr), (a :: as)[j]? = some (.own i) ∧ (k :: pk)[j]? = some .inn ∧ (v :: vs)[j]? = some (.ref p) ∧ Top g H' p d := fun h1 h2 => by
      obtain ⟨j, p, j1, j2, j3, j4⟩ := given_get h1 h2 hm
      exact ⟨j + 1, p, by simpa using j1, by simpa using j2, by simpa using j3, j4⟩
    cases k with
    | inn =>
      obtain ⟨p, m, r, rfl, rfl, t, hr⟩ := hg
      cases n with
      | zero =>
        have em : m = d := by simpa using hm
        subst em
        refine ⟨0, p, ?_, rfl, rfl, t⟩
        unfold giveOf at h
        cases a with
        | own s =>
          have : s = i := by simpa using h
          subst this
          rfl
        | _ => simp at h
      | succ n =>
        have h' : (giveOf pk as)[n]? = some (some i) := by
          unfold giveOf at h
          simpa using h
        obtain ⟨j, p', j1, j2, j3, j4⟩ := given_get hr h' (by simpa using hm)
        exact ⟨j + 1, p', by simpa using j1, by simpa using j2, by simpa using j3, j4⟩
    | val => exact other hg h
    | bor => exact other hg h
    | own => exact other hg h
/-- the caller's state behind a call -/
theorem Stt.called (G : Stt g T ks H0 M B H σ ρ) {pk : List Kd} {as : List X} {os : List O} {ds : List PyData} {vs : List V} {ms : List PyData} {ρ' : Rho} (hb : argB ks pk as = true) (hO : OpOf as os) (hs : see ρ os = some ds) (hr : RepOs g H σ os vs) (A : Aft g T pk vs ms H H')
    (hp : putBack (giveOf pk as) ms ρ = some ρ') : Stt g T ks H0 M B H' σ ρ' := by
  obtain ⟨l, f⟩ := putBack_get hp
  -- the slots that were given
  have slot : ∀ {j : Nat} {p : Addr}, pk[j]? = some .inn → vs[j]? = some (.ref p) → ∃ s d, as[j]? = some (.own s) ∧ isOwn ks[s]? = true ∧ ρ[s]? = some (some d) ∧ σ[s]? = some (some (.ref p)) := fun {j p} h1 h2 => by
    obtain ⟨a, o, d, v, a1, o1, d1, v1, oo, se, ro, ab⟩ := arg_at hb hO hs hr h1
    rw [h2] at v1
    cases v1
    cases a with
    | own s =>
      have eo : o = .inr s := oo.1
      subst eo
      exact ⟨s, d, a1, by simpa [argB] using ab, seeO_inr se, ro⟩
    | _ => simp [argB] at ab
  have innB : ∀ {p : Addr}, InnAt pk vs p → (M p ∨ H0 p = none) ∧ ¬ B p := fun {p} ⟨j, h1, h2⟩ => by
    obtain ⟨s, d, _, h3, h4, h5⟩ := slot h1 h2
    exact G.ownM p ⟨s, d, h4, h3, h5⟩
  have back : ∀ {i : Nat} {d : PyData}, ρ'[i]? = some (some d) → (∃ d1, ρ[i]? = some (some d1)) ∧ ((ρ[i]? = some (some d) ∧ some i ∉ giveOf pk as) ∨ (isOwn ks[i]? = true ∧ ∃ p, σ[i]? = some (some (.ref p)) ∧ Top g H' p d)) := fun {i d} h => by
    rcases f i d h with ⟨h1, h2⟩ | ⟨n, h1, h2, _⟩
    · exact ⟨⟨d, h2⟩, .inl ⟨h2, h1⟩⟩
    · obtain ⟨j, p, j1, j2, j3, j4⟩ := given_get A.given h1 h2
      obtain ⟨s, d1, h3, h4, h5, h6⟩ := slot j2 j3
      rw [j1] at h3
      cases h3
      exact ⟨⟨d1, h5⟩, .inr ⟨h4, p, h6, j4⟩⟩
  have stays : ∀ {p : Addr} {d : PyData}, Top g H p d → ¬ InnAt pk vs p → Top g H' p d := fun {p d} t n => t.stay A.kept fun o q => A.frame p o q n fun ps z => t.code.2 ps (by rw [q, z])
  refine ⟨l.trans G.len, fun a o h n nt => A.frame a o (G.frame a o h n nt) (fun z => ?_) nt, fun i d h1 h2 => ?_, fun i d h1 h2 => ?_, fun i d h1 h2 => ?_, fun i j d e p hne h1 h2 h3 h4 h5 => ?_, fun i d h => ?_, fun p hp n => ?_, fun i d v h => ?_, A.tabs, fun a ps h => let ⟨ps', z⟩ := G.frT a ps h; A.frT a ps' z⟩
  · rcases (innB z).1 with q | q
    · exact n q
    · rw [q] at h; cases h
  · rcases (back h1).2 with ⟨h3, _⟩ | ⟨h3, _⟩
    · obtain ⟨v, e, r⟩ := G.val i d h3 h2
      exact ⟨v, e, r.mono A.kept⟩
    · rw [h2] at h3; cases h3
  · rcases (back h1).2 with ⟨h3, _⟩ | ⟨h3, _⟩
    · exact G.bor i d h3 h2
    · rw [h2] at h3; cases h3
  · rcases (back h1).2 with ⟨h3, h4⟩ | ⟨_, p, h4, t⟩
    · obtain ⟨p, e, t, m⟩ := G.own i d h3 h2
      refine ⟨p, e, stays t ?_, m⟩
      rintro ⟨j, j1, j2⟩
      obtain ⟨s, d1, a1, a2, a3, a4⟩ := slot j1 j2
      by_cases q : s = i
      · subst q
        exact h4 (give_mem j1 a1)
      · exact G.apart s i d1 d p q a3 h3 a2 h2 a4 e
    · obtain ⟨d1, h5⟩ := (back h1).1
      obtain ⟨p', e, _, m⟩ := G.own i d1 h5 h2
      rw [h4] at e
      cases e
      exact ⟨p, h4, t, m⟩
  · obtain ⟨d1, q1⟩ := (back h1).1
    obtain ⟨d2, q2⟩ := (back h2).1
    exact G.apart i j d1 d2 p hne q1 q2 h3 h4 h5
  · obtain ⟨d1, q1⟩ := (back h).1
    exact G.kinds i d1 q1
  · exact G.bh p hp (A.kept.d p n)
  · rcases G.bsl i d v h with r | ⟨p, e2, t, b⟩
    · exact .inl (r.mono A.kept)
    · exact .inr ⟨p, e2, stays t fun z => (innB z).2 b, b⟩
end
section
variable {X : Cx} {b : Bd} {W : WX} {x : Str} {p pos : Pos} {e : Expr} {es : List Expr} {as : List PV.X} {f : Nat} {fi : Fi}
/-- f(e, ..) of the text -/
theorem eCall (cn : Cn X b W) (hF : b.F = CallsF b.pg b.C b.EC b.T b.k) (hf : b.pg.T[f]? = some fi) (hx : fi.name = x) (gl : Gl X x) (hb : argB b.ks (fi.ks.take fi.np) as = true) (ha : apB as = true) (h : OpsOk X b W (e :: es) as)
    (hdb : (x == ("__debug__" : Str)) = false := by decide) (hpl : (backTo pos (starEach es X.env)).any (·.1) = false := by rfl) : PE X (.Call (.Name x p) (e :: es) [] pos) (tR b W fi.fresh (.call f as)) := by
  have fc := cn.fc
  rw [hF] at fc
  obtain ⟨a, fd, hm, FF, hbd, FG⟩ := fc f fi hf
  have hk := FF.kp
  rw [hx] at hm
  refine PV.PE.imp (pe_callG FG cn.hr cn.gd cn.tk gl hm hk hbd (pa_ops h) (star_of h) hdb hpl) fun σ H Q q => ?_
  obtain ⟨H0, M, B, ρ, G, q⟩ := q
  rw [evE] at q
  refine ⟨H0, M, B, ρ, G, ?_⟩
  cases he : evOs b.pg b.C as ρ with
  | bad => rw [he] at q; exact q
  | exc c d ρ' => rw [he] at q; exact q
  | ok os ρ1 =>
    rw [he] at q
    simp only [R.bind] at q
    intro vs H1 k1 G1 r1
    cases hs : see ρ1 os with
    | none => simp only [hs] at q; exact q.elim
    | some ds =>
      simp only [hs] at q
      have hO := op_shape he
      have hkk : kindsOf b.pg f = fi.ks.take fi.np := by unfold kindsOf; rw [hf]
      rw [hkk] at q
      have ew : (⟨X.prog, X.w, X.K⟩ : Wd) = b.g := cn.g.symm
      rw [ew]
      refine ⟨ds, args_of G1 hb hO hs r1, apart_of G1 hb ha hO hs r1, G1.tabs, ?_⟩
      cases hc : b.C f ds with
      | bad => rw [hc] at q; exact q
      | exc c d ms =>
        rw [hc] at q
        unfold callR at q
        cases hp : putBack (giveOf (fi.ks.take fi.np) as) ms ρ1 with
        | none => simp only [hp] at q; exact q.elim
        | some ρ2 =>
          simp only [hp] at q
          exact fun cls dd H' A r => q cls dd H' (k1.trans A.kept) (G1.called hb hO hs r1 A hp) r
      | ret d ms =>
        rw [hc] at q
        unfold callR at q
        cases hp : putBack (giveOf (fi.ks.take fi.np) as) ms ρ1 with
        | none => simp only [hp] at q; exact q.elim
        | some ρ2 =>
          simp only [hp] at q
          intro v H' A r
          have G2 := G1.called hb hO hs r1 A hp
          refine q v H' (k1.trans A.kept) G2 ?_
          unfold ResG at r
          unfold RR
          split
          · rename_i hc2
            rw [if_pos hc2] at r
            obtain ⟨p, e1, np, t⟩ := r
            refine ⟨p, e1, ⟨(NF.of_none np).pre k1, fun ⟨j, w, h1, h2, h3⟩ => ?_, G1.nb_new np, G1.new0 np⟩, t⟩
            -- an own slot's address was there before
            obtain ⟨l, ff⟩ := putBack_get hp
            have : ∃ d1, ρ1[j]? = some (some d1) := by
              rcases ff j w h1 with ⟨_, z⟩ | ⟨n, z1, z2, _⟩
              · exact ⟨w, z⟩
              · obtain ⟨j', p', j1, j2, j3, j4⟩ := given_get A.given z1 z2
                obtain ⟨a', o', d', v', a1, o1, d1, v1, oo, se, ro, ab⟩ := arg_at hb hO hs r1 j2
                rw [j1] at a1
                cases a1
                have eo : o' = .inr j := oo.1
                subst eo
                exact ⟨d', seeO_inr se⟩
            obtain ⟨d1, q1⟩ := this
            exact G1.ap_new np j d1 q1 h2 h3
          · rename_i hc2
            rw [if_neg hc2] at r
            exact r
end
end PV

set_option maxHeartbeats 4000000
/-! PV13: all defs of a text; the end. -/
namespace PV
open PySem L2

/-- what is fixed for the def fi, called from depth n -/
def bdOf (g : Wd) (pg : Pg) (EC : Nat → Option (Addr × Str)) (T : List (Addr × Str)) (n : Nat) (fi : Fi) : Bd := ⟨g, pg, callF pg n, fi.ks, EC, T, n, fi.fresh, CallsF pg (callF pg n) EC T n⟩
/-- a def of the text, found in the written part, its body's term given -/
structure DefOk (P : Program) (w : World) (K : PySem.W.Frag) (mg : Str → Option Value) (base : Heap) (pg : Pg) (EC : Nat → Option (Addr × Str)) (T : List (Addr × Str)) (fi : Fi) : Prop where
  ex : ∃ (a : Addr) (fd : FuncData) (ws : List Nat), L2.Fun K fi.name fi.name fi.st a fd ∧ mg fi.name = some (.ref a) ∧ L2.Binds K fd (fi.N.take fi.np) [] ∧ FnScope fi.N (fi.N.take fi.np) (defScope fi.st) ∧ wsOk fi.ks ws = true ∧
    ∀ (n : Nat) (cdv : Value) (A : Around) (outer : List Env) (s : Shared) (H : Hp) (E : XK), fd.code = cdv → Cn (cxOf (L2.CX P w) P w K mg base fi.N fi.name (defScope fi.st) a cdv A outer s H E) (bdOf ⟨P, w, K⟩ pg EC T n fi) (fun cls dd _ H' => E cls dd H') →
      PSs (cxOf (L2.CX P w) P w K mg base fi.N fi.name (defScope fi.st) a cdv A outer s H E) (defBody fi.st) (tN (bdOf ⟨P, w, K⟩ pg EC T n fi) (fun cls dd _ H' => E cls dd H') ws fi.body)
  np : fi.np ≤ fi.N.length ∧ fi.np ≤ fi.ks.length
/-- every def keeps what the evaluator tells, at every depth -/
theorem all_calls {P : Program} {w : World} {K : PySem.W.Frag} {mg : Str → Option Value} {base : Heap} {pg : Pg} {EC : Nat → Option (Addr × Str)} {T : List (Addr × Str)} (h : ∀ (f : Nat) (fi : Fi), pg.T[f]? = some fi → DefOk P w K mg base pg EC T fi) : ∀ n, CallsF pg (callF pg n) EC T n P w K mg base
  | 0 => fun f fi hf => by
    obtain ⟨⟨a, fd, ws, F, hm, hb, S, hw, body⟩, n1, n2⟩ := h f fi hf
    refine ⟨a, fd, hm, F, hb, ⟨fun vs H Q E ⟨ds, A, _⟩ => ?_, fun A outer s H args us vs Q E _ _ _ _ _ ⟨ds, _, _, _, q⟩ => q.elim⟩⟩
    rw [A.len.2, List.length_take, List.length_take]
    omega
  | n + 1 => fun f fi hf => by
    have ih := all_calls h n
    obtain ⟨⟨a, fd, ws, F, hm, hb, S, hw, body⟩, n1, n2⟩ := h f fi hf
    have lp : (fi.N.take fi.np).length = fi.np := by rw [List.length_take]; omega
    refine ⟨a, fd, hm, F, hb, ?_⟩
    have := fn_body (b := bdOf ⟨P, w, K⟩ pg EC T n fi) (pk := fi.ks.take fi.np) (ws := ws) (code := fi.body) (C' := callF pg (n + 1) f) F S rfl (by rw [lp]; rfl) (by rw [lp, List.length_take]; omega) (by rw [lp]; exact n1) hw ih (fun ds hl => ?_) (body n)
    · exact this
    · rw [lp] at hl
      have hk : kindsOf pg f = fi.ks.take fi.np := by unfold kindsOf; rw [hf]
      show (match pg.T[f]? with
        | some fi => if ds.length = fi.np then endOf pg f (exSs pg (callF pg n) fi.body (startR fi ds)) else .bad
        | none => .bad) = _
      rw [hf]
      simp only [hl, if_true]
      unfold endOf
      rw [hk]
      have es : startR fi ds = ds.map some ++ List.replicate (fi.N.length - fi.np) none := by unfold startR; rw [hl]
      rw [es]
      show _ = (match exSs pg (callF pg n) fi.body (ds.map some ++ List.replicate (fi.N.length - fi.np) none) with
        | .nx ρ => _
        | .ret d ρ => _
        | .exc c d ρ => _
        | _ => _)
      cases exSs pg (callF pg n) fi.body (ds.map some ++ List.replicate (fi.N.length - fi.np) none) <;> rfl
end PV

set_option maxHeartbeats 4000000
/-! PV14: the rules in short, as the printer uses them. -/
namespace PV
open PySem L2

/-- the built-in names that a text has not bound -/
structure Mgs (mg : Str → Option Value) : Prop where
  len : mg "len" = none
  int : mg "int" = none
  str : mg "str" = none
  abs : mg "abs" = none
  tuple : mg "tuple" = none
  list : mg "list" = none
  dict : mg "dict" = none
  bool : mg "bool" = none
  any : mg "any" = none
  all : mg "all" = none
  sum : mg "sum" = none
  max : mg "max" = none
  min : mg "min" = none
  repr : mg "repr" = none
  range : mg "range" = none
  isinstance : mg "isinstance" = none
  sorted : mg "sorted" = none
  enumerate : mg "enumerate" = none
  zip : mg "zip" = none
  reversed : mg "reversed" = none
theorem bt_len : bootBuiltins "len" = some (.builtin "len") := by decide +kernel
theorem bt_abs : bootBuiltins "abs" = some (.builtin "abs") := by decide +kernel
theorem bt_any : bootBuiltins "any" = some (.builtin "any") := by decide +kernel
theorem bt_all : bootBuiltins "all" = some (.builtin "all") := by decide +kernel
theorem bt_sum : bootBuiltins "sum" = some (.builtin "sum") := by decide +kernel
theorem bt_max : bootBuiltins "max" = some (.builtin "max") := by decide +kernel
theorem bt_min : bootBuiltins "min" = some (.builtin "min") := by decide +kernel
theorem bt_repr : bootBuiltins "repr" = some (.builtin "repr") := by decide +kernel
theorem bt_int : bootBuiltins "int" = some (.type "int") := by decide +kernel
theorem bt_str : bootBuiltins "str" = some (.type "str") := by decide +kernel
theorem bt_bool : bootBuiltins "bool" = some (.type "bool") := by decide +kernel
theorem bt_tuple : bootBuiltins "tuple" = some (.type "tuple") := by decide +kernel
theorem bt_list : bootBuiltins "list" = some (.type "list") := by decide +kernel
theorem bt_dict : bootBuiltins "dict" = some (.type "dict") := by decide +kernel
abbrev cx (P : Program) (w : World) (K : PySem.W.Frag) (mg : Str → Option Value) (base : Heap) (fi : Fi) (f : Addr) (cdv : Value) (A : Around) (outer : List Env) (s : Shared) (H : Hp) (E : XK) : Cx :=
  cxOf (L2.CX P w) P w K mg base fi.N fi.name (defScope fi.st) f cdv A outer s H E

section
variable {X : Cx} {b : Bd} {W : WX} {ws ws' : List Nat} {a c e l : Expr} {es : List Expr} {xs : List PV.X} {x y z : PV.X} {pos pos' p : Pos} {nw : Bool} {nm : Str} {body : List Stmt} {ss : List S}
theorem Cn.u64 (cn : Cn X b W) : X.A.units + 64 < cLine := by have := cn.hr.un; omega
theorem opN : OpsOk X b W [] [] := True.intro
theorem opC (h : PE X e (tO b W x)) (t : OpsOk X b W es xs) (hn : noStar e = true := by rfl) : OpsOk X b W (e :: es) (x :: xs) := ⟨⟨hn, h⟩, t⟩
/-- a local name of a value -/
theorem V1 (i : Nat) (hk : b.ks[i]? = some .val := by rfl) (hN : X.N[i]? = some nm := by rfl) (hv : Vis X.env.scope nm := by first | exact Or.inl rfl | exact Or.inr (Or.inl rfl) | exact Or.inr (Or.inr rfl)) (hd : (nm == ("__debug__" : Str)) = false := by decide)
    (hcd : (nm == ("__classdict__" : Str)) = false := by decide) : PE X (.Name nm pos) (tR b W false (.var i)) := eVar hk (pe_var hN hv hd hcd)
theorem O1 (i : Nat) (hN : X.N[i]? = some nm := by rfl) (hv : Vis X.env.scope nm := by first | exact Or.inl rfl | exact Or.inr (Or.inl rfl) | exact Or.inr (Or.inr rfl)) (hd : (nm == ("__debug__" : Str)) = false := by decide)
    (hcd : (nm == ("__classdict__" : Str)) = false := by decide) : PE X (.Name nm pos) (tO b W (.own i)) := pe_var (i := i) hN hv hd hcd
theorem B1 (i : Nat) (hN : X.N[i]? = some nm := by rfl) (hv : Vis X.env.scope nm := by first | exact Or.inl rfl | exact Or.inr (Or.inl rfl) | exact Or.inr (Or.inr rfl)) (hd : (nm == ("__debug__" : Str)) = false := by decide)
    (hcd : (nm == ("__classdict__" : Str)) = false := by decide) : PE X (.Name nm pos) (tO b W (.bor i)) := pe_var (i := i) hN hv hd hcd
theorem M1 (i : Nat) (hk : isOwn b.ks[i]? = true := by rfl) (hN : X.N[i]? = some nm := by rfl) (hv : Vis X.env.scope nm := by first | exact Or.inl rfl | exact Or.inr (Or.inl rfl) | exact Or.inr (Or.inr rfl)) (hd : (nm == ("__debug__" : Str)) = false := by decide)
    (hcd : (nm == ("__classdict__" : Str)) = false := by decide) : PE X (.Name nm pos) (tR b W true (.mv i)) := eMv hk (pe_var hN hv hd hcd)
/-- a target -/
theorem G1 (i : Nat) (hN : X.N.Nodup) (hi : X.N[i]? = some nm := by rfl) (hx : Loc X.env.scope nm := by first | exact Or.inl rfl | exact Or.inr rfl) (hf : X.fn nm = true ∨ X.env.scope.names.lookup nm = some .local := by first | exact Or.inl rfl | exact Or.inr rfl) :
    PG X (.Name nm pos) (gName i) := pg_name hN hi hx hf
/-- name = e -/
theorem sV (cn : Cn X b W) (i : Nat) (he : PE X e (tR b W false x)) (hi : X.N[i]? = some nm := by rfl) (hk : b.ks[i]? = some .val := by rfl) (hw : ws.contains i = true := by rfl) (hx : Loc X.env.scope nm := by first | exact Or.inl rfl | exact Or.inr rfl) (hs : swapsWith e (some (.Name nm pos')) pos.line X.env = pure false := by rfl)
    (hf : X.fn nm = true ∨ X.env.scope.names.lookup nm = some .local := by first | exact Or.inl rfl | exact Or.inr rfl) : PS X (.Assign [.Name nm pos'] e pos) (t1 b W ws (.asg (.nm i) x)) := sSet cn hi hk hw hx he hs hf
theorem sO (cn : Cn X b W) (i : Nat) (he : PE X e (tR b W true x)) (hi : X.N[i]? = some nm := by rfl) (hk : b.ks[i]? = some .own := by rfl) (hw : ws.contains i = true := by rfl) (hx : Loc X.env.scope nm := by first | exact Or.inl rfl | exact Or.inr rfl) (hs : swapsWith e (some (.Name nm pos')) pos.line X.env = pure false := by rfl)
    (hf : X.fn nm = true ∨ X.env.scope.names.lookup nm = some .local := by first | exact Or.inl rfl | exact Or.inr rfl) : PS X (.Assign [.Name nm pos'] e pos) (t1 b W ws (.asgO i x)) := sOwn cn hi hk hw hx he hs hf
theorem sA {o : Op} {op : Operator} (cn : Cn X b W) (i : Nat) (hp : PIp X op (ipOf (wd X) o)) (he : PE X e (tR b W false x)) (hi : X.N[i]? = some nm := by rfl) (hk : b.ks[i]? = some .val := by rfl) (hw : ws.contains i = true := by rfl) (hx : Loc X.env.scope nm := by first | exact Or.inl rfl | exact Or.inr rfl)
    (hf : X.fn nm = true ∨ X.env.scope.names.lookup nm = some .local := by first | exact Or.inl rfl | exact Or.inr rfl) : PS X (.AugAssign (.Name nm pos') op e pos) (t1 b W ws (.aug i o x)) := sAug cn hp hi hk hw hx he hf
theorem sR (i : Nat) (hf : b.fr = true := by rfl) (hk : isOwn b.ks[i]? = true := by rfl) (hN : X.N[i]? = some nm := by rfl) (hv : Vis X.env.scope nm := by first | exact Or.inl rfl | exact Or.inr (Or.inl rfl) | exact Or.inr (Or.inr rfl)) (hd : (nm == ("__debug__" : Str)) = false := by decide)
    (hcd : (nm == ("__classdict__" : Str)) = false := by decide) : PS X (.Return (some (.Name nm pos')) pos) (t1 b W ws (.retO i)) := sRetO hf hk (pe_var hN hv hd hcd)
/-! name = [..], a value -/
section
variable {zz : PV.X} {tg : Tg} {sk : Sk} {ys ifx : List PV.X} {vs : List Nat} {elt target iter : Expr} {ifs : List Expr} {scope : Scope} {own : List (Str × Nat)} {i : Nat}
theorem val_lc {σ : L2.St} {H : Hp} {D : Ends} (hlt : i < σ.length) (hk : b.ks[i]? = some .val) (hw : ws.contains i = true) (q : t1 b W ws (.asg (.nm i) x) D σ H) :
    tR b W true x σ H fun v H1 => D.nx (σ.set i (some v)) H1 ∨ ∃ p u, H1 p = some u ∧ Mut (some u) ∧ ∀ o, D.nx (σ.set i (some v)) (upd H1 p (.frz o u)) := by
  have q : tS b W ws (fun ρ => (evE b.pg b.C x ρ).then fun d ρ1 => setS (.nm i) d ρ1) D σ H := by
    obtain ⟨H0, M, B, ρ, G, q⟩ := q
    exact ⟨H0, M, B, ρ, G, by dsimp only at q; rw [exS] at q; exact q⟩
  refine then_tm q fun H0 M B d ρ1 v H1 k G r a => ?_
  unfold RR at r
  by_cases hn : (isTopD d && true) = true
  · rw [if_pos hn] at r
    obtain ⟨p, rfl, n, t⟩ := r
    have tc := t.code
    obtain ⟨u, e1, m, r⟩ := t.freeze
    refine .inr ⟨p, u, e1, m, fun o => ?_⟩
    have G2 := G.freeze (o := o) e1 m n.out n.nb n.m tc
    exact a _ _ (Kept.put (by rw [e1]; exact m)) (But.set (by simpa using hw)) (G2.setVal hk (r o) hlt)
  · rw [if_neg hn] at r
    exact .inl (a _ H1 (Kept.refl H1) (But.set (by simpa using hw)) (G.setVal hk r hlt))
theorem sVLc {spos : Pos} (cn : Cn X b W) (i : Nat) (hsw : swapsWith (.ListComp elt [⟨target, iter, ifs, 0⟩] scope pos) (some (.Name nm pos')) spos.line X.env = pure true)
    (hi : PI X target iter (tI b W sk ys)) (ok : BlkOk X.N X.env.scope scope own) (hv : own.map (·.2) = vs) (lk : lcOk b.ks ys tg vs X.N.length = true)
    (hg : ∀ (s : Shared) (H : Hp) (C : Addr) (cl : List (Str × Addr)) (fp : List Addr), PG (X.blk s H scope (compEnvC scope cl C X.env) fp) target (gTg X.K tg))
    (ht : ∀ (s : Shared) (H : Hp) (C : Addr) (cl : List (Str × Addr)) (fp : List Addr), Cn (X.blk s H scope (compEnvC scope cl C X.env) fp) b WF → PTs (X.blk s H scope (compEnvC scope cl C X.env) fp) ifs (tIfs b WF ifx))
    (he : ∀ (s : Shared) (H : Hp) (C : Addr) (cl : List (Str × Addr)) (fp : List Addr), Cn (X.blk s H scope (compEnvC scope cl C X.env) fp) b WF → PE (X.blk s H scope (compEnvC scope cl C X.env) fp) elt (tR b WF false zz))
    (hn : X.N[i]? = some nm := by rfl) (hk : b.ks[i]? = some .val := by rfl) (hw : ws.contains i = true := by rfl) (hyl : X.env.scope.names.lookup nm = some .local := by rfl)
    (hs : ∀ x, foldedSetIterable iter X.env x = pure x := by intro _; rfl) : PS X (.Assign [.Name nm pos'] (.ListComp elt [⟨target, iter, ifs, 0⟩] scope pos) spos) (t1 b W ws (.asg (.nm i) (.lc zz tg sk ys ifx vs))) := by
  obtain ⟨h1, h2, h3⟩ := lcOk_by lk
  refine PV.PS.len (PV.PS.frzN (ps_setLc cn.calm cn.nd hn hyl hsw hi ok hg (fun s H C cl fp => ht s H C cl fp (cn.blk s H scope _ fp)) (fun s H C cl fp => he s H C cl fp (cn.blk s H scope _ fp)) hs)) fun D σ H hl q => ?_
  show tLc _ _ _ _ (own.map (·.2)) σ H _
  rw [hv]
  exact lc_tm (by rw [cn.g]) h1 (fun j hj => by rw [hl]; exact h2 j hj) h3 (val_lc (by rw [hl]; exact (List.getElem?_eq_some_iff.mp hn).1) hk hw q)
end
end

/-! ### methods of dicts -/
section
variable {X : Cx} {b : Bd} {W : WX} {o e : Expr} {es : List Expr} {to : TE} {t : TA} {name : Str} {apos cpos : Pos} {T id : String} {r : V → List V → Hp → VK → Prop} {ty : V → Hp → Prop} {xs : List PV.X} {i : Nat}
theorem pe_bmT (pa : PySem.PlainAttrs T) (slot : PySem.Slot T name id) (hty : typeOf (.builtin id) = pure (.type "method_descriptor"))
    (hT : ∀ {pins : List (Addr × Obj)} {s : Shared} {σ : L2.St} {H : Hp} {x : V} {v : Value}, L2.Inv X pins σ H s → RelV x v → ty x H → s.TypeIs v T ∧ ∀ a, v = .ref a → ∃ ob, s.heap.get? a = some ob ∧ ob.dict = none) (hm : MtR X id r) (ho : PE X o to) (ha : PA X (e :: es) t)
    (hbase : attributeBase o name X.env (eval o X.env) = eval o X.env := by rfl)
    (hfew : ((backTo cpos (starEach (e :: es) X.env)).all (fun x => !x.1) && (backToKw cpos (keywordEach [] X.env)).all (fun x => x.1.isSome) && decide ((e :: es).length + ([] : List Keyword).length + (if ([] : List Keyword).isEmpty then 0 else 1) < 30)) = true := by rfl)
    (hline : (apos.endLine == cpos.line) = true := by rfl) (hs : starEach (e :: es) X.env = (false, eval e X.env) :: starEach es X.env := by rfl) (hplain : (backTo cpos (starEach es X.env)).any (·.1) = false := by rfl) :
    PE X (.Call (.Attribute o name apos) (e :: es) [] cpos) (fun σ H Q => to σ H fun x H1 => ty x H1 ∧ t σ H1 fun xs H2 => r x xs H2 Q) := by
  constructor
  intro pins s σ H Q I h
  refine PySem.wpAny_Call_method_late hbase hfew hline rfl (thn (ho.run pins s σ H _ I h) ?_)
  rintro v s1 ⟨x, H1, I1, r1, tx, q1⟩
  obtain ⟨h1, h2⟩ := hT I1 r1 tx
  have hA := ha.run cpos pins s1 σ H1 _ I1 q1
  rw [hs] at hA
  refine ⟨T, id, pa, slot, hty, h1, h2, ?_⟩
  rw [hs]
  refine Calls.callWith_builtin (by show (false || (backTo cpos (starEach es X.env)).any (·.1)) = false; rw [hplain]; rfl) (Calls.evalArgs_plain (thn hA ?_))
  rintro us s2 ⟨vs, H2, I2, r2, q2⟩
  exact hm pins s2 σ H2 x vs v us Q I2 r1 r2 q2
/-- x.get(k), x.get(k, d) -/
theorem eGet {x : Str} {p1 : Pos} (cn : Cn X b W) (hv : PE X (.Name x p1) (tVar i)) (ha : PA X (e :: es) (tEs b W xs)) (hstar : starEach (e :: es) X.env = (false, eval e X.env) :: starEach es X.env := by rfl)
    (hfew : ((backTo cpos (starEach (e :: es) X.env)).all (fun x => !x.1) && (backToKw cpos (keywordEach [] X.env)).all (fun x => x.1.isSome) && decide ((e :: es).length + ([] : List Keyword).length + (if ([] : List Keyword).isEmpty then 0 else 1) < 30)) = true := by rfl)
    (hline : (apos.endLine == cpos.line) = true := by rfl) (hplain : (backTo cpos (starEach es X.env)).any (·.1) = false := by rfl) :
    PE X (.Call (.Attribute (.Name x p1) "get" apos) (e :: es) [] cpos) (tR b W false (.get i xs)) := by
  refine PV.PE.imp (pe_bmT (ty := fun v H => ∃ kvs, BRep (wd X) H (.dict kvs) v) PySem.F.plainAttrs_dict PySem.F.slot_dict_get PySem.F.type_dict_get (fun I r ⟨kvs, h⟩ => ?_) ((mtd_get cn.u65).or (mtd_get2 cn.u65)) hv ha (by rfl) hfew hline hstar hplain) fun σ H Q q => ?_
  · obtain ⟨a, u, ks, rfl, e, sh, r1⟩ := h.dct
    cases (show _ = Value.ref a from r)
    exact ⟨dict_ty I h rfl, dict_no I h rfl⟩
  · obtain ⟨H0, M, B, ρ, G, q⟩ := q
    rw [evE] at q
    split at q
    · rename_i kvs e1
      obtain ⟨v, e2, r⟩ := G.read e1
      refine ⟨v, e2, ⟨kvs, by rw [← cn.g]; exact r⟩, H0, M, B, ρ, G, ?_⟩
      cases h1 : evEs b.pg b.C xs ρ with
      | bad => rw [h1] at q; exact q
      | exc c d ρ' => rw [h1] at q; exact q
      | ok ds ρ1 =>
        rw [h1] at q
        intro vs H1 k1 G1 r1
        simp only [R.bind] at q
        split at q
        · rename_i d e3
          obtain ⟨v', e4, rr⟩ := G1.read e3
          rw [e2] at e4
          cases e4
          split at q
          · rename_i z hz
            have fin : ∀ {nw2 : Bool} {v2 : V} {H2 : Hp}, Same H1 H2 → Rep (wd X) H2 z v2 → Q v2 H2 := fun {_ v2 H2} s2 r2 => q v2 H2 (k1.trans (Kept.of_same s2)) (G1.same s2) (RR.of (by rw [cn.g]; exact r2))
            have old : ∀ {v2 : V} {H2 : Hp}, Res (wd X) false H1 H2 z v2 → Rep (wd X) H2 z v2 := fun {v2 H2} h => by
              unfold Res at h
              rw [Bool.and_false, if_neg Bool.false_ne_true] at h
              exact h
            match ds, r1, hz with
            | [k], r1, hz =>
              obtain ⟨w, rfl, r2⟩ := r1.one
              exact .inl ⟨[d, k], z, ⟨v, [w], rfl, by rw [← cn.g]; exact rr, w, [], rfl, .inl (by rw [← cn.g]; exact r2), rfl⟩, hz, fun v2 H2 s2 h => fin (nw2 := true) s2 (old h)⟩
            | [k, y], r1, hz =>
              obtain ⟨w, w2, rfl, r2, r3⟩ := r1.two
              exact .inr ⟨[d, k, y], z, ⟨v, [w, w2], rfl, by rw [← cn.g]; exact rr, w, [w2], rfl, .inl (by rw [← cn.g]; exact r2), w2, [], rfl, .inl (by rw [← cn.g]; exact r3), rfl⟩, hz, fun v2 H2 s2 h => fin (nw2 := true) s2 (old h)⟩
            | [], _, hz => cases hz
            | _ :: _ :: _ :: _, _, hz => cases hz
          · exact q.elim
        · exact q.elim
    · exact q.elim
end
end PV

set_option maxHeartbeats 4000000
/-! PV15: calls by keywords. -/
namespace PV
open PySem L2

section
variable {α β : Type}
theorem pick_paired {G : α → β → Prop} {xs : List α} {ys : List β} (h : Paired G xs ys) : ∀ {pm : List Nat} {xs2 : List α}, pick pm xs = some xs2 → ∃ ys2, pick pm ys = some ys2 ∧ Paired G xs2 ys2
  | [], xs2, e => by cases e; exact ⟨[], rfl, .nil⟩
  | i :: is, xs2, e => by
    unfold pick at e
    cases hx : xs[i]? with
    | none => rw [hx] at e; cases e
    | some x =>
      cases hr : pick is xs with
      | none => rw [hx, hr] at e; cases e
      | some r =>
        rw [hx, hr] at e
        cases e
        obtain ⟨y, hy, hg⟩ := paired_get h hx
        obtain ⟨ys2, e2, p2⟩ := pick_paired h hr
        refine ⟨y :: ys2, ?_, .cons hg p2⟩
        unfold pick
        rw [hy, e2]
end
theorem repOs_get {g : Wd} {H : Hp} {σ : L2.St} : ∀ {os : List O} {vs : List V} {i : Nat} {o : O}, RepOs g H σ os vs → os[i]? = some o → ∃ v, vs[i]? = some v ∧ RepO g H σ o v
  | [], _, i, o, _, e => by simp at e
  | x :: os, vs, 0, o, h, e => by
    obtain ⟨v, r, rfl, h1, h2⟩ := h
    have : x = o := by simpa using e
    subst this
    exact ⟨v, rfl, h1⟩
  | x :: os, vs, i + 1, o, h, e => by
    obtain ⟨v, r, rfl, h1, h2⟩ := h
    obtain ⟨w, h3, h4⟩ := repOs_get (i := i) h2 (by simpa using e)
    exact ⟨w, by simpa using h3, h4⟩
theorem repOs_pick {g : Wd} {H : Hp} {σ : L2.St} {os : List O} {vs : List V} (h : RepOs g H σ os vs) : ∀ {pm : List Nat} {os2 : List O}, pick pm os = some os2 → ∃ vs2, pick pm vs = some vs2 ∧ RepOs g H σ os2 vs2
  | [], os2, e => by cases e; exact ⟨[], rfl, rfl⟩
  | i :: is, os2, e => by
    unfold pick at e
    cases hx : os[i]? with
    | none => rw [hx] at e; cases e
    | some x =>
      cases hr : pick is os with
      | none => rw [hx, hr] at e; cases e
      | some r =>
        rw [hx, hr] at e
        cases e
        obtain ⟨v, hv, rv⟩ := repOs_get h hx
        obtain ⟨vs2, e2, r2⟩ := repOs_pick h hr
        refine ⟨v :: vs2, ?_, v, vs2, rfl, rv, r2⟩
        unfold pick
        rw [hv, e2]
theorem opOf_get : ∀ {as : List X} {os : List O} {i : Nat} {a : X} {o : O}, OpOf as os → as[i]? = some a → os[i]? = some o → OpOf [a] [o]
  | [], _, i, a, o, _, e, _ => by simp at e
  | _ :: _, [], i, a, o, h, _, _ => h.elim
  | x :: as, y :: os, 0, a, o, h, e, e2 => by
    have h1 : x = a := by simpa using e
    have h2 : y = o := by simpa using e2
    subst h1 h2
    exact ⟨h.1, True.intro⟩
  | x :: as, y :: os, i + 1, a, o, h, e, e2 => opOf_get (i := i) h.2 (by simpa using e) (by simpa using e2)
theorem opOf_pick {as : List X} {os : List O} (h : OpOf as os) : ∀ {pm : List Nat} {as2 : List X} {os2 : List O}, pick pm as = some as2 → pick pm os = some os2 → OpOf as2 os2
  | [], as2, os2, e, e2 => by cases e; cases e2; exact True.intro
  | i :: is, as2, os2, e, e2 => by
    unfold pick at e e2
    cases hx : as[i]? with
    | none => rw [hx] at e; cases e
    | some x =>
      cases hr : pick is as with
      | none => rw [hx, hr] at e; cases e
      | some r =>
        cases hy : os[i]? with
        | none => rw [hy] at e2; cases e2
        | some y =>
          cases hq : pick is os with
          | none => rw [hy, hq] at e2; cases e2
          | some q =>
            rw [hx, hr] at e
            rw [hy, hq] at e2
            cases e
            cases e2
            exact ⟨(opOf_get h hx hy).1, opOf_pick h hr hq⟩
section
variable {X : Cx} {b : Bd} {W : WX} {x : Str} {p pos kpos : Pos} {e : Expr} {kws : List Keyword} {as as2 : List PV.X} {a : PV.X} {f : Nat} {fi : Fi} {nm : Option Str}
theorem PK.imp {t t' : TA} (h : PK X kws t) (w : ∀ σ H Q, t' σ H Q → t σ H Q) : PK X kws t' := ⟨fun pos pins s σ H Q I q => h.run pos pins s σ H Q I (w σ H Q q)⟩
theorem kN : PK X [] (tOs b W []) := PV.PK.imp pk_nil fun σ H Q ⟨H0, M, B, ρ, G, h⟩ => no_op (W := W) G h
theorem kC (h : PE X e (tO b W a)) (t : PK X kws (tOs b W as)) : PK X (⟨nm, e, kpos⟩ :: kws) (tOs b W (a :: as)) := by
  refine PV.PK.imp (pk_cons h t) fun σ H Q q => ?_
  obtain ⟨H0, M, B, ρ, G, q⟩ := q
  exact first_op G q fun v H1 ρ1 k G1 a => ⟨H0, M, B, ρ1, G1, a⟩
/-- a call's reading, the arguments there -/
theorem call_tm {σ : L2.St} {H H1 H0 : Hp} {M : Addr → Prop} {B : Lent} {ρ1 : Rho} {os : List O} {ds : List PyData} {vs : List V} {Q : VK} (hb : argB b.ks (fi.ks.take fi.np) as = true) (ha : apB as = true) (k1 : Kept H H1) (G1 : Stt b.g b.T b.ks H0 M B H1 σ ρ1) (hO : OpOf as os) (hs : see ρ1 os = some ds) (r1 : RepOs b.g H1 σ os vs)
    (q : aftE b W fi.fresh H0 M B σ H Q (callR (b.C f ds) (giveOf (fi.ks.take fi.np) as) ρ1)) : spF b.g b.T b.EC (fi.ks.take fi.np) fi.fresh (b.C f) vs H1 Q (WE W σ) := by
  refine ⟨ds, args_of G1 hb hO hs r1, apart_of G1 hb ha hO hs r1, G1.tabs, ?_⟩
  unfold callR at q
  cases hc : b.C f ds with
  | bad => rw [hc] at q; exact q
  | exc c d ms =>
    rw [hc] at q
    cases hp : putBack (giveOf (fi.ks.take fi.np) as) ms ρ1 with
    | none => simp only [hp] at q; exact q.elim
    | some ρ2 =>
      simp only [hp] at q
      exact fun cls dd H' A r => q cls dd H' (k1.trans A.kept) (G1.called hb hO hs r1 A hp) r
  | ret d ms =>
    rw [hc] at q
    cases hp : putBack (giveOf (fi.ks.take fi.np) as) ms ρ1 with
    | none => simp only [hp] at q; exact q.elim
    | some ρ2 =>
      simp only [hp] at q
      intro v H' A r
      refine q v H' (k1.trans A.kept) (G1.called hb hO hs r1 A hp) ?_
      unfold ResG at r
      unfold RR
      by_cases hc2 : (isTopD d && fi.fresh) = true
      · rw [if_pos hc2] at r ⊢
        obtain ⟨p, e1, np, t⟩ := r
        refine ⟨p, e1, ⟨(NF.of_none np).pre k1, fun ⟨j, w, h1, h2, h3⟩ => ?_, G1.nb_new np, G1.new0 np⟩, t⟩
        obtain ⟨d1, q1⟩ : ∃ d1, ρ1[j]? = some (some d1) := by
          obtain ⟨l, ff⟩ := putBack_get hp
          rcases ff j w h1 with ⟨_, z⟩ | ⟨n, z1, z2, _⟩
          · exact ⟨w, z⟩
          · obtain ⟨j', p', j1, j2, j3, j4⟩ := given_get A.given z1 z2
            obtain ⟨a', o', d', v', a1, o1, d1, v1, oo, se, ro, ab⟩ := arg_at hb hO hs r1 j2
            rw [j1] at a1
            cases a1
            have eo : o' = .inr j := oo.1
            subst eo
            exact ⟨d', seeO_inr se⟩
        exact G1.ap_new np j d1 q1 h2 h3
      · rw [if_neg hc2] at r ⊢
        exact r
/-- how keywords bind: each parameter is named -/
def KwOk (fi : Fi) (ks : List Str) (pm : List Nat) : Prop := ∀ (kV doc pmv : Value) (an : Option Addr) (cdv ct : Value) (ws us : List Value), ws.length = ks.length → pick pm ws = some us →
  bindArgs (PySem.W.fnOf fi.name fi.name (defArgs fi.st) (defBody fi.st) (defScope fi.st) .none kV doc pmv an cdv ct) ⟨[], ks.zip ws⟩ = pure ((fi.N.take fi.np).zip us)
/-- f(k = e, ..) of the text -/
theorem eCallK {ks : List Str} {pm : List Nat} (cn : Cn X b W) (hF : b.F = CallsF b.pg b.C b.EC b.T b.k) (hf : b.pg.T[f]? = some fi) (hx : fi.name = x) (gl : Gl X x) (hp : pick pm as = some as2) (hb : argB b.ks (fi.ks.take fi.np) as2 = true) (ha : apB as2 = true) (hw : KwOk fi ks pm) (hn : as.length = ks.length) (h : PK X kws (tOs b W as))
    (hdb : (x == ("__debug__" : Str)) = false := by decide) (hall : (backToKw pos (keywordEach kws X.env)).all (·.1.isSome) = true := by rfl) (hks : (backToKw pos (keywordEach kws X.env)).filterMap (·.1) = ks := by rfl)
    (hpl : ((backTo pos (starEach [] X.env)).any (·.1) || (backToKw pos (keywordEach kws X.env)).any (·.1.isNone)) = false := by rfl) : PE X (.Call (.Name x p) [] kws pos) (tR b W fi.fresh (.callk f pm as)) := by
  have fc := cn.fc
  rw [hF] at fc
  obtain ⟨fa, fd, hm, FF, hbd, FG⟩ := fc f fi hf
  rw [hx] at hm
  constructor
  intro pins s σ H Q I q
  -- the keywords' values, then the call
  have rd : tOs b W as σ H fun zs H1 => ∃ vs, zs.length = ks.length ∧ pick pm zs = some vs ∧ spF b.g b.T b.EC (fi.ks.take fi.np) fi.fresh (b.C f) vs H1 Q (WE W σ) := by
    obtain ⟨H0, M, B, ρ, G, q⟩ := q
    rw [evE] at q
    refine ⟨H0, M, B, ρ, G, ?_⟩
    cases he : evOs b.pg b.C as ρ with
    | bad => rw [he] at q; exact q
    | exc c d ρ' => rw [he] at q; exact q
    | ok os ρ1 =>
      rw [he] at q
      simp only [R.bind] at q
      intro zs H1 k1 G1 r1
      have lz : ∀ {os : List O} {zs : List V}, RepOs b.g H1 σ os zs → zs.length = os.length := by
        intro os
        induction os with
        | nil => intro zs h; have h : zs = [] := h; rw [h]; rfl
        | cons o os ih => intro zs h; obtain ⟨v, r, rfl, _, h2⟩ := h; rw [List.length_cons, List.length_cons, ih h2]
      have lo : ∀ {as : List PV.X} {os : List O}, OpOf as os → os.length = as.length := by
        intro as
        induction as with
        | nil => intro os h; cases os with
          | nil => rfl
          | cons _ _ => exact h.elim
        | cons a as ih => intro os h; cases os with
          | nil => exact h.elim
          | cons o os => rw [List.length_cons, List.length_cons, ih h.2]
      have hO := op_shape he
      have hkk : kindsOf b.pg f = fi.ks.take fi.np := by unfold kindsOf; rw [hf]
      rw [hkk, hp] at q
      cases hq : pick pm os with
      | none => simp only [hq] at q; exact q.elim
      | some os2 =>
        simp only [hq] at q
        cases hs : see ρ1 os2 with
        | none => simp only [hs] at q; exact q.elim
        | some ds =>
          simp only [hs] at q
          obtain ⟨vs, e1, r2⟩ := repOs_pick r1 hq
          exact ⟨vs, ((lz r1).trans (lo hO)).trans hn, e1, call_tm hb ha k1 G1 (opOf_pick hO hp hq) hs r2 q⟩
  refine wpAny_Call_Name_kw (ld_glob I gl hm ?_ hdb)
  refine PySem.W.callWith_KW0 (h₀ := X.base) I.ok.mod.kin FF.kp hall (thn (h.run pos pins s σ H _ I rd) ?_) hpl
  rintro ws s2 ⟨zs, H2, I2, rz, vs, hl, hv, hsp⟩
  refine ⟨I2.kIn, ?_⟩
  rw [hks]
  obtain ⟨us, e2, rv⟩ := pick_paired rz hv
  have hlen := FG.len vs H2 Q (WE W σ) (by rw [show (⟨X.prog, X.w, X.K⟩ : Wd) = b.g from cn.g.symm]; exact hsp)
  have bd : BindsTo s2 fd ⟨[], ks.zip ws⟩ ((fi.N.take fi.np).zip us) := by
    obtain ⟨oc, od, kV, doc, pmv, an, cdv, ct, osl, rfl, lk, hcd⟩ := FF.ex
    exact .of_eq (hw kV doc pmv an cdv ct ws us (by rw [← rz.length]; exact hl) e2)
  refine wpAny_call (codeAny_mono (FG.run X.A X.stack s2 H2 ⟨[], ks.zip ws⟩ us vs Q (WE W σ) cn.hr cn.gd I2.env0 bd rv (by rw [show (⟨X.prog, X.w, X.K⟩ : Wd) = b.g from cn.g.symm]; exact hsp)) ?_)
  intro res s' hq
  match res, hq with
  | .error e, hq => exact passAt cn.tk σ pins H2 s2 e s' I2 hq
  | .ok (.ret u), hq => exact I2.after hq
end
end PV

set_option maxHeartbeats 4000000
/-! PV16: the end of a law: from the law's own promise to the goal that the head leaves. -/
namespace PV
open PySem PySem.Spec PyProof.Rows L2

theorem rep_ints {g : Wd} {H : Hp} : ∀ ns : List Int, Reps g H (ns.map PyData.int) (ns.map V.int)
  | [] => .nil
  | n :: ns => .cons (by rw [Rep]) (rep_ints ns)
/-- the script's object -/
abbrev scrO (vs : List Value) : Obj := { cls := .type "list", data := .seq vs.toArray }
/-- what is tracked at the start: the empty tables at ts, the script at a (unless it is one of the written things) -/
def startH (K : PySem.W.Frag) (ts : List Addr) (a : Addr) (vs : List Value) (ns : List Int) : Hp := fun b =>
  if b ∈ ts then some (.tbl #[]) else if b = a ∧ (K.lookup a).isNone = true then some (.frz (scrO vs) (.lst (ns.map V.int))) else none
section
variable {P : Program} {w : World} {K : PySem.W.Frag} {mg mb : Str → Option Value} {k : Nat} {fa a : Addr} {cs : List (Addr × Addr)} {fd : FuncData} {x : Str} {sp : Sp} {s₁ : Shared} {vs : List Value} {ns : List Int}
theorem startH_cases {ts : List Addr} {b : Addr} {u : HO} (h : startH K ts a vs ns b = some u) : (b ∈ ts ∧ u = .tbl #[]) ∨ (b = a ∧ K.lookup a = none ∧ u = .frz (scrO vs) (.lst (ns.map V.int))) := by
  unfold startH at h
  by_cases c : b ∈ ts
  · rw [if_pos c] at h
    exact .inl ⟨c, (Option.some.inj h).symm⟩
  · rw [if_neg c] at h
    by_cases d : b = a ∧ (K.lookup a).isNone = true
    · rw [if_pos d] at h
      exact .inr ⟨d.1, Option.isNone_iff_eq_none.mp d.2, (Option.some.inj h).symm⟩
    · rw [if_neg d] at h; cases h
theorem law_callG (KX : K.In s₁.heap) (hns : s₁.heap.Ns mainGlobals mg) (hb : s₁.heap.Ns builtinsNs mb) (hbb : ∀ x : Str, x ≠ "__name__" → mb x = bootBuiltins x) (hlim : s₁.heap.NoLimit) (hg : s₁.gens = #[])
    (hT : ∀ p ∈ cs, s₁.heap.get? p.2 = some { cls := .none, data := .fields #[] }) (nT : ∀ p ∈ cs, K.lookup p.2 = none) (hC : ∀ p ∈ cs, PySem.W.CodeHd s₁.heap p.1 p.2)
    (hbm : ∃ (bm : Addr) (ob : Obj), mg "__builtins__" = some (.ref bm) ∧ bm ≠ builtinsNs ∧ s₁.heap.get? bm = some ob ∧ ob.cls = .type "module" ∧ ob.dict = some builtinsNs ∧ ob.data = .plain)
    (ha : s₁.heap.get? a = some (scrO vs)) (hi : IntsAre vs ns) (hl : ns.length ≤ sizeLine) (hr : Room k callerA)
    (F : ∀ base : Heap, K.In base → base.Ns mainGlobals mg → (∀ p ∈ cs, LamX.TabB base mg p.1 p.2) → FnG P w K mg base k fa fd [x] sp) (hbind : ∀ (s : Shared) (u : Value), BindsTo s fd ⟨[u], []⟩ [(x, u)])
    (hsp : ∀ H : Hp, (∀ p ∈ cs, H p.2 = some (.tbl #[])) → Rep ⟨P, w, K⟩ H (.list (ns.map PyData.int)) (.ref a) → sp [.ref a] H (fun v _ => v = .bl true) fun _ _ _ => False) :
    codeAny (model P w) callerA (.call (.ref fa) ⟨[.ref a], []⟩) (fun r s' => r = .ok (.ret (.bool true)) ∧ OldK s₁.heap s'.heap ∧ s'.os = s₁.os ∧ AllBare s'.gens) s₁ := by
  have rv := vals_ints hi
  have lenV : vs.length = ns.length := hi.length
  generalize hH : startH K (cs.map (·.2)) a vs ns = H
  have tabAt : ∀ {b : Addr}, b ∈ cs.map (·.2) → s₁.heap.get? b = some { cls := .none, data := .fields #[] } := fun {b} h => by
    obtain ⟨p, hp, rfl⟩ := List.mem_map.mp h
    exact hT p hp
  have aT : a ∉ cs.map (·.2) := fun h => by
    have := tabAt h
    rw [ha] at this
    have := congrArg Obj.data (Option.some.inj this)
    cases this
  have what : ∀ {b : Addr} {u : HO}, H b = some u → (b ∈ cs.map (·.2) ∧ u = .tbl #[]) ∨ (b = a ∧ K.lookup a = none ∧ u = .frz (scrO vs) (.lst (ns.map V.int))) := fun {b u} h => startH_cases (by rw [hH]; exact h)
  -- an object of another kind is not tracked
  have free : ∀ {b : Addr} {o : Obj}, s₁.heap.get? b = some o → o.data ≠ .fields #[] → (∀ us n, o.data ≠ .seq us n) → H b = none := fun {b o} e n1 n2 => by
    cases q : H b with
    | none => rfl
    | some u =>
      rcases what q with ⟨h, _⟩ | ⟨rfl, _, _⟩
      · rw [tabAt h] at e
        cases e
        exact absurd rfl n1
      · rw [ha] at e
        cases e
        exact absurd rfl (n2 _ _)
  have hok : HOk P w H s₁.heap := fun b u e => by
    rcases what e with ⟨h, rfl⟩ | ⟨rfl, _, rfl⟩
    · exact tabAt h
    · exact ⟨ha, by rw [List.length_map]; exact hl, vs, _, rv, ha⟩
  have nsB : ∀ {b : Addr} {m : Str → Option Value}, s₁.heap.Ns b m → (hidT s₁.heap H).Ns b m := by
    rintro b m ⟨o, es, ep, e, d, r⟩
    exact ⟨o, es, ep, hidT_get e (free e (by rw [d]; exact fun z => (nomatch z)) fun us n => (by rw [d]; exact fun z => (nomatch z))), d, r⟩
  have kB : K.In (hidT s₁.heap H) := fun b o e => hidT_get (KX b o e) (by
    cases q : H b with
    | none => rfl
    | some u =>
      rcases what q with ⟨h, _⟩ | ⟨rfl, h, _⟩
      · obtain ⟨p, hp, rfl⟩ := List.mem_map.mp h
        rw [nT p hp] at e; cases e
      · rw [h] at e; cases e)
  have mod : L2.Mod K mg (hidT s₁.heap H) := ⟨kB, nsB hns, ⟨mb, nsB hb, hbb⟩, hlim.elim fun mc h => ⟨mc, nsB h.1, h.2⟩⟩
  have tb : ∀ p ∈ cs, LamX.TabB (hidT s₁.heap H) mg p.1 p.2 := fun p hp => by
    refine ⟨?_, ?_, fun z => ?_⟩
    · obtain ⟨o, us, file, tf, flags, tg, inF, text, tt, e1, r1, r2, r3, rest⟩ := hC p hp
      refine ⟨o, us, file, tf, flags, tg, inF, text, tt, hidT_get e1 (free e1 (fun z => ?_) fun _ _ z => ?_), r1, r2, r3, rest⟩
      · rw [r2] at z
        cases z
        simp at r3
      · rw [r2] at z; cases z
    · obtain ⟨bm, ob, b1, b2, b3, b4, b5, b6⟩ := hbm
      have d1 : ∀ {q : Addr} {m : Str → Option Value}, s₁.heap.Ns q m → bm ≠ q := by
        rintro q m ⟨o, es, ep, e, hd, _⟩ rfl
        rw [b3] at e
        cases e
        rw [b6] at hd; cases hd
      refine ⟨bm, ob, b1, b2, d1 hns, fun z => ?_, hidT_get b3 (free b3 (by rw [b6]; exact fun z => (nomatch z)) fun us n => (by rw [b6]; exact fun z => (nomatch z))), b4, b5, b6⟩
      rw [z, hT p hp] at b3
      cases b3
      cases b6
    · obtain ⟨o, es, ep, e, hd, _⟩ := hns
      rw [z, hT p hp] at e
      cases e
      cases hd
  have e0 : Env0 P w K mg (hidT s₁.heap H) callerA [] s₁ H := ⟨rfl, mod, fun b o e => of_hidT e, Nat.le_of_eq (hidT_size _ _), trivial, fun b hb => absurd (show b ∈ ([] : List Addr) from hb) (by simp), hok, .of_eq hg⟩
  have hTH : ∀ p ∈ cs, H p.2 = some (.tbl #[]) := fun p hp => by
    rw [← hH]
    unfold startH
    rw [if_pos (List.mem_map.mpr ⟨p, hp, rfl⟩)]
  have hrep : Rep ⟨P, w, K⟩ H (.list (ns.map PyData.int)) (.ref a) := by
    rw [Rep]
    refine ⟨a, ns.map V.int, rfl, ?_, rep_ints ns⟩
    cases q : K.lookup a with
    | none =>
      refine .inl ⟨scrO vs, ?_⟩
      rw [← hH]
      unfold startH
      rw [if_neg aT, if_pos ⟨rfl, by rw [q]; rfl⟩]
    | some o =>
      have := KX a o q
      rw [ha] at this
      cases this
      exact .inr ⟨vs, _, q, by rw [lenV]; exact hl, rv⟩
  refine codeAny_mono ((F _ kB (nsB hns) tb).run callerA [] s₁ H ⟨[.ref a], []⟩ [.ref a] [.ref a] _ _ hr rfl e0 (hbind s₁ (.ref a)) (.cons rfl .nil) (hsp H hTH hrep)) ?_
  intro r s' h
  match r, h with
  | .error e, h =>
    obtain ⟨_, _, _, _, _, _, _, _, _, _, _, _, z⟩ := h
    exact z.elim
  | .ok (.ret u), h =>
    obtain ⟨v, H', os, bare, un, hok', r', q⟩ := h
    have q : v = .bl true := q
    subst q
    cases (show u = Value.bool true from r')
    have kept : ∀ b o, b ∉ cs.map (·.2) → s₁.heap.get? b = some o → s'.heap.get? b = some o := fun b o nb e => by
      cases q : H b with
      | none => exact un.keep b o e q (fun z => absurd (show b ∈ ([] : List Addr) from z) (by simp)) (by simp)
      | some u =>
        rcases what q with ⟨h, _⟩ | ⟨rfl, _, rfl⟩
        · exact absurd h nb
        · rw [ha] at e
          cases e
          exact (hok' b _ (un.frzs b _ _ q)).1
    have grown : ∀ p ∈ cs, ∃ more : Array Value, s'.heap.get? p.2 = some { cls := .none, data := .fields more } := fun p hp => by
      obtain ⟨more, z⟩ := un.tbls p.2 #[] (hTH p hp)
      exact ⟨_, hok' p.2 _ z⟩
    refine ⟨rfl, ⟨fun b o e => ?_, fun b o e => ?_⟩, os, bare⟩
    · by_cases hbT : b ∈ cs.map (·.2)
      · obtain ⟨p, hp, rfl⟩ := List.mem_map.mp hbT
        obtain ⟨more, hm⟩ := grown p hp
        rw [hT p hp] at e
        cases e
        exact .inr (.inl ⟨((hC p hp).tab (hT p hp)).isCodeTable, rfl, #[], more, rfl, by rw [Array.empty_append]; exact hm⟩)
      · exact .inl (kept b o hbT e)
    · by_cases hbT : b ∈ cs.map (·.2)
      · obtain ⟨p, hp, rfl⟩ := List.mem_map.mp hbT
        obtain ⟨more, hm⟩ := grown p hp
        exact ⟨_, hm⟩
      · exact ⟨o, kept b o hbT e⟩
end

/-- what is known of the law at the head's heap h -/
def LawG (l : PySem.W.OpenLaw) (w : World) (K : PySem.W.Frag) (k n : Nat) (x : Str) (mg : Str → Option Value) (fa : Addr) (h : Heap) : Prop :=
  ∃ (fd : FuncData) (cs : List (Addr × Addr)) (sp : Sp), (∀ p ∈ cs, h.get? p.2 = some { cls := .none, data := .fields #[] }) ∧ (∀ p ∈ cs, K.lookup p.2 = none) ∧ (∀ p ∈ cs, PySem.W.CodeHd h p.1 p.2) ∧ (∀ (s : Shared) (u : Value), BindsTo s fd ⟨[u], []⟩ [(x, u)]) ∧
    (∀ (H : Hp) (a : Addr) (ns : List Int), ns.length ≤ n → (∀ z ∈ ns, Builtin.Int.intBits z ≤ 1048576) → (∀ p ∈ cs, H p.2 = some (.tbl #[])) → Rep ⟨l.prog, w, K⟩ H (.list (ns.map PyData.int)) (.ref a) → sp [.ref a] H (fun v _ => v = .bl true) fun _ _ _ => False) ∧
    ∀ base : Heap, K.In base → base.Ns mainGlobals mg → (∀ p ∈ cs, LamX.TabB base mg p.1 p.2) → FnG l.prog w K mg base k fa fd [x] sp
theorem walkG {l : PySem.W.OpenLaw} {n k : Nat} {q : Program} {loose : List Str} {XP : (Str → Option Value) → Heap → Prop} {YP : World → Heap → Prop} {d : DefRec} {K : Params → PySem.W.Frag} {x : Str}
    (hn : l.most = some n) (hn2 : n ≤ sizeLine) (hdf : d.params.defaults = []) (hr : Room k callerA) (hY : ∀ (w : World) (h : Heap), YP w h → (K w.params).In h)
    (F : ∀ (w : World) (mg : Str → Option Value) (fa : Addr) (h : Heap), YP w h → (K w.params).In h → h.Ns mainGlobals mg → mg d.name = some (.ref fa) → LawG l w (K w.params) k n x mg fa h) :
    PySem.W.WalkO q loose XP YP l.row.toRowW d [] (fun f vs => PySem.call f vs) := by
  refine Att.attach_callB hn hdf fun w s₀ s₁ mg mb fa o pm cd doc a vs ns G Y ho hd hcd hmg hobj hints hlen hbits hg => ?_
  obtain ⟨fd, cs, sp, h1, h2, h3, h4, h5, h6⟩ := F w mg fa _ Y (hY w _ Y) G.T.g hmg
  exact law_callG (hY w _ Y) G.T.g G.T.b G.T.builtins G.T.nolimit hg h1 h2 h3 G.T.bmain hobj hints (Nat.le_trans hlen hn2) hr h6 h4 fun H tH rp => h5 H a ns hlen hbits tH rp
/-- a def found in the written part -/
def DefAt (K : PySem.W.Frag) (mg : Str → Option Value) (fi : Fi) : Prop := ∃ (f : Addr) (fd : FuncData), L2.Fun K fi.name fi.name fi.st f fd ∧ mg fi.name = some (.ref f)
theorem defAt {K : PySem.W.Frag} {h : Heap} {mg : Str → Option Value} {fi : Fi} {f : Addr} {oc : Value} {od an : Option Addr} {osl : Array (Option Value)} {kV doc pm cdv ct : Value} (KX : K.In h) (G : h.Ns mainGlobals mg)
    (a : PySem.W.nsIn K mainGlobals fi.name = some (some (.ref f))) (l : K.lookup f = some ⟨oc, od, .func (PySem.W.fnOf fi.name fi.name (defArgs fi.st) (defBody fi.st) (defScope fi.st) .none kV doc pm an cdv ct), osl⟩)
    (c : PySem.W.codeIn K cdv fi.name = true) (k : PySem.W.keepIn K (.ref f) = true) : DefAt K mg fi := ⟨f, _, fun_mk l c k, PySem.W.mg_of KX G a⟩
/-- a def whose code object is known (it makes a lambda) -/
def DefAtC (K : PySem.W.Frag) (mg : Str → Option Value) (fi : Fi) (c : Addr) : Prop := ∃ (f : Addr) (fd : FuncData), L2.Fun K fi.name fi.name fi.st f fd ∧ mg fi.name = some (.ref f) ∧ fd.code = .ref c
theorem defAtC {K : PySem.W.Frag} {h : Heap} {mg : Str → Option Value} {fi : Fi} {f c : Addr} {oc : Value} {od an : Option Addr} {osl : Array (Option Value)} {kV doc pm cdv ct : Value} (KX : K.In h) (G : h.Ns mainGlobals mg)
    (a : PySem.W.nsIn K mainGlobals fi.name = some (some (.ref f))) (l : K.lookup f = some ⟨oc, od, .func (PySem.W.fnOf fi.name fi.name (defArgs fi.st) (defBody fi.st) (defScope fi.st) .none kV doc pm an cdv ct), osl⟩)
    (cc : PySem.W.codeIn K cdv fi.name = true) (k : PySem.W.keepIn K (.ref f) = true) (e : cdv = .ref c) : DefAtC K mg fi c := ⟨f, _, fun_mk l cc k, PySem.W.mg_of KX G a, e⟩
/-- the table of a code object -/
def tabOfK (K : PySem.W.Frag) (c : Addr) : Addr := match K.lookup c with
  | some ⟨_, _, .fields vs, _⟩ => (match (vs[11]? : Option Value) with
    | some (.ref P) => P
    | _ => 0)
  | _ => 0
/-- the qualified name of a lambda in the def x -/
def lamQ (x : Str) : Str := x ++ ".<locals>." ++ "<lambda>"
theorem mgs_of {K : PySem.W.Frag} {h : Heap} {mg : Str → Option Value} (KX : K.In h) (G : h.Ns mainGlobals mg) (z1 : PySem.W.nsIn K mainGlobals "len" = some none) (z2 : PySem.W.nsIn K mainGlobals "int" = some none) (z3 : PySem.W.nsIn K mainGlobals "str" = some none) (z4 : PySem.W.nsIn K mainGlobals "abs" = some none) (z5 : PySem.W.nsIn K mainGlobals "tuple" = some none)
    (z6 : PySem.W.nsIn K mainGlobals "list" = some none) (z7 : PySem.W.nsIn K mainGlobals "dict" = some none) (z8 : PySem.W.nsIn K mainGlobals "bool" = some none) (z9 : PySem.W.nsIn K mainGlobals "any" = some none) (z10 : PySem.W.nsIn K mainGlobals "all" = some none) (z11 : PySem.W.nsIn K mainGlobals "sum" = some none)
    (z12 : PySem.W.nsIn K mainGlobals "max" = some none) (z13 : PySem.W.nsIn K mainGlobals "min" = some none) (z14 : PySem.W.nsIn K mainGlobals "repr" = some none) (z15 : PySem.W.nsIn K mainGlobals "range" = some none) (z16 : PySem.W.nsIn K mainGlobals "isinstance" = some none) (z17 : PySem.W.nsIn K mainGlobals "sorted" = some none)
    (z18 : PySem.W.nsIn K mainGlobals "enumerate" = some none) (z19 : PySem.W.nsIn K mainGlobals "zip" = some none) (z20 : PySem.W.nsIn K mainGlobals "reversed" = some none) : Mgs mg :=
  have f := fun {y : Str} (z : PySem.W.nsIn K mainGlobals y = some none) => PySem.W.mg_none_of KX G z
  ⟨f z1, f z2, f z3, f z4, f z5, f z6, f z7, f z8, f z9, f z10, f z11, f z12, f z13, f z14, f z15, f z16, f z17, f z18, f z19, f z20⟩
end PV

set_option maxHeartbeats 4000000
/-! PV17: dict comprehensions, with keys of any kind that is served. -/
namespace PV
open PySem L2

section
variable {X : Cx} {b : Bd} {W : WX}
/-- a dict of one's own, stored into by the machine itself -/
theorem dset_put {pins : List (Addr × Obj)} {σ : L2.St} {H : Hp} {s : Shared} {p : Addr} {kvs : List (PyData × PyData)} {k x : PyData} {i v : V} {iv u : Value} {E : Value → Shared → Prop} {Q : Unit → Shared → Prop} (hr : X.A.units + 65 < cLine) (I : L2.Inv X pins σ H s) (t : Top (wd X) H p (.dict kvs)) (rk : Rep (wd X) H k i) (rx : Rep (wd X) H x v)
    (hf : keyFits k kvs = true) (hz0 : kvs.length < sizeLine) (ri : RelV i iv) (rv : RelV v u) (q : ∀ ob s', Top (wd X) (upd H p ob) p (.dict (dput k x kvs)) → L2.Inv X pins σ (upd H p ob) s' → Q () s') :
    wpAny (model X.prog X.w) X.A (dictSet p iv u) Q E s := by
  obtain ⟨ob, ks, e, sh, r⟩ := t
  have hl := r.length
  have k12 : keyKd k = 1 ∨ keyKd k = 2 := by
    have h0 := fit0 hf
    cases k with
    | int _ => exact .inl rfl
    | str _ => exact .inl rfl
    | tuple ds =>
      have h0 : (if (keyOks ds && decide ((nk (.tuple ds)).depth ≤ 8)) = true then 2 else 0) ≠ 0 := h0
      by_cases c : (keyOks ds && decide ((nk (.tuple ds)).depth ≤ 8)) = true
      · exact .inr (if_pos c)
      · rw [if_neg c] at h0; exact absurd rfl h0
    | _ => exact absurd rfl h0
  -- with tuple keys
  have nest : ∀ xs : List (NestedKey × Addr × V), NdAt X H p xs → ks = xs.map (fun x => (V.ref x.2.1, x.2.2)) → xs.map (·.1) = (kvs.map (·.1)).map nk → (∀ d ∈ kvs.map (·.1), keyKd d = 2) → Mut (H p) → keyKd k = 2 → wpAny (model X.prog X.w) X.A (dictSet p iv u) Q E s := by
    intro xs ea ek en h2 mu k2
    subst ek
    obtain ⟨hs, hz, ys, np, dd⟩ := nd_at I ea r en h2
    obtain ⟨b, rfl, hb⟩ := key_is I k2 rk
    cases (show iv = Value.ref b from ri)
    have lx : xs.length = kvs.length := by rw [← hl, List.length_map]
    have ly : ys.length = xs.length := (Paired.length np).symm
    obtain ⟨i1, i2⟩ := put_nd (k := k) (d := x) rk rx r en
    refine wpAny_dictSet_heap (hsz := by omega) (show X.A.units + 8 < cLine by omega) hb dd fun h' dd' hs' => ?_
    rw [stored_rec dd.nodup] at dd'
    obtain ⟨o, es, ep, ho, hx, hdt, hes, his, hnd⟩ := dd'
    have new : L2.ObjOk X.prog X.w (upd H p (.ext (ndPhi (wd X) p (putR xs (nk k) b v)))) h' p (.ext (ndPhi (wd X) p (putR xs (nk k) b v))) := by
      refine ⟨⟨hs, ?_, ?_, putR ys (nk k) b u, ndp_put rv np, o, es, ep, ho, hx, hdt, hes⟩, ⟨o, ho⟩, ?_⟩
      · have := putR_len (k := nk k) (b := b) (u := v) xs
        omega
      · rw [← ndp_keys (ndp_put rv np)]
        exact hnd
      · rintro h1 h2 ⟨a1, a2, a3, zs, a4, o1, es1, ep1, a5, a6⟩ hk
        exact ⟨a1, a2, a3, zs, a4, o1, es1, ep1, hk _ a5, a6⟩
    have φ := new.1
    refine q _ _ ⟨_, _, upd_same, .inr ⟨putR xs (nk k) b v, ⟨putR_ne xs, fun q z => ?_⟩, rfl, rfl, i2, dput_keys k2 h2⟩, RepKs.mono (Kept.put mu) _ i1⟩ (d_write I mu hs' ⟨o, ho⟩ new)
    unfold LamX.CodeO at z
    injection z with z
    rw [z] at φ
    obtain ⟨oc, us, t, e1, e2, _⟩ := φ
    rw [ho] at e1
    cases e1
    rw [hdt] at e2
    cases e2
  rcases sh with ⟨l, rfl, rfl⟩ | ⟨xs, hne, rfl, ek, en, h2⟩
  · rcases k12 with k1 | k2
    · obtain ⟨key, rfl, rfl⟩ := kd1 k1 rk
      have ll : l.length = kvs.length := by rw [← hl, List.length_map]
      have nd : (l.map (·.1)).Nodup := by
        obtain ⟨_, _, vs, rel, o, es, ep, _, _, _, _, _, hn⟩ := dk_of I.hok e
        rw [KV.keys rel]; exact hn
      exact d_dictSet I e (by omega) ri rv fun s' I' => q _ _ ⟨_, _, upd_same, .inl ⟨_, rfl, rfl⟩, RepKs.mono (Kept.put (by rw [e]; trivial)) _ (put_dK rx nd r)⟩ I'
    · cases kvs with
      | nil =>
        rw [RepKs] at r
        have hl : l = [] := by cases l with
          | nil => rfl
          | cons _ _ => cases r
        subst hl
        exact nest [] (.inr ⟨rfl, .inl e⟩) rfl rfl (fun d hd => nomatch hd) (by rw [e]; trivial) k2
      | cons w t =>
        obtain ⟨_, h2⟩ := fits_kinds hf
        obtain ⟨pa, pb⟩ := w
        rw [RepKs] at r
        obtain ⟨x1, y1, u, e1, r1, _, _⟩ := r
        cases l with
        | nil => cases e1
        | cons q l =>
          cases e1
          have := rep_kV r1
          rw [k2, this] at h2
          cases hq : q.1 <;> rw [hq] at h2 <;> cases h2
  · have k2 : keyKd k = 2 := by
      cases kvs with
      | nil => cases xs with
        | nil => exact absurd rfl hne.1
        | cons _ _ => cases en
      | cons w t =>
        obtain ⟨_, h⟩ := fits_kinds hf
        rw [← h]
        exact h2 w.1 (by simp)
    exact nest xs (.inl (.inl e)) ek en h2 (by rw [e]; trivial) k2

/-- {k: v for target in iter if ..}: D the new dict -/
def tDn (X : Cx) (wi : TI) (g : TG) (tt : TT) (tk tv : TE) (vs : List Nat) : TE := fun σ H Q => wi σ H fun J H1 => ∀ D, H1 D = none → ∃ Z : Nat → Nat → Hp → Prop, (∃ m, Z 0 m (upd H1 D (.dK []))) ∧ ∀ i m H, Z i m H →
  (J.stop i H ∧ Q (.ref D) H) ∨ (J.go i H ∧ ∃ Nx : Hp → Prop, (∀ H', Nx H' → ∃ m', m' < m ∧ Z (i + 1) m' H') ∧ ∀ x H', J.yld i H x H' → g x (wipe σ vs) H' fun σ2 H2 => wipe σ2 vs = wipe σ vs ∧ tt σ2 H2 fun c H3 =>
    if c = true then tk σ2 H3 fun y H4 => tv σ2 H4 fun z H5 => ∃ kvs kd xd, Top (wd X) H5 D (.dict kvs) ∧ Rep (wd X) H5 kd y ∧ Rep (wd X) H5 xd z ∧ keyFits kd kvs = true ∧ kvs.length < sizeLine ∧ ∀ ob, Top (wd X) (upd H5 D ob) D (.dict (dput kd xd kvs)) → Nx (upd H5 D ob)
    else Nx H3)
section
variable {kx vx tg iter : Expr} {ifs : List Expr} {scope : Scope} {own : List (Str × Nat)} {pos : Pos} {wi : TI} {g : TG} {tt : TT} {tk tv : TE}
theorem pe_dn (cn : Cn X b W) (hi : PI X tg iter wi) (ok : BlkOk X.N X.env.scope scope own)
    (hg : ∀ (s : Shared) (H : Hp) (C : Addr) (cl : List (Str × Addr)) (fp : List Addr), PG (X.blk s H scope (compEnvC scope cl C X.env) fp) tg g) (ht : ∀ (s : Shared) (H : Hp) (C : Addr) (cl : List (Str × Addr)) (fp : List Addr), PTs (X.blk s H scope (compEnvC scope cl C X.env) fp) ifs tt)
    (hk : ∀ (s : Shared) (H : Hp) (C : Addr) (cl : List (Str × Addr)) (fp : List Addr), PE (X.blk s H scope (compEnvC scope cl C X.env) fp) kx tk)
    (he : ∀ (s : Shared) (H : Hp) (C : Addr) (cl : List (Str × Addr)) (fp : List Addr), PE (X.blk s H scope (compEnvC scope cl C X.env) fp) vx tv) (hs : ∀ x, foldedSetIterable iter X.env x = pure x := by intro _; rfl) :
    PE X (.DictComp kx vx [⟨tg, iter, ifs, 0⟩] scope pos) (tDn X wi g tt tk tv (own.map (·.2))) := by
  constructor
  intro pins s σ H Q I h
  rw [arm_eval_DictComp]
  have captured : ∀ y ∈ scope.names, y.2 = .free → ∃ c, X.env.cells.lookup y.1 = some c := fun y hy e => (ok.free y hy e).elim (fun k => I.ok.has _ (.inl k)) (fun k => I.ok.has _ (.inr k))
  refine PySem.wpAny_comprehension_free (use := none) rfl hs (closure_ok captured) ok.kind (fun y hy e => by rw [ok.uniq y hy, e]) (thn (hi.run pins s σ H _ I h) fun xv s1 hx => thn hx ?_)
  rintro itv s2 ⟨it, fp, tn, J, H2, rfl, I2, T, st2, f2, q⟩
  refine wpAny_newObj_type (newEnv_comp ?_)
  -- the new dict
  have nD : H2 s2.heap.objs.size = none := I2.hok.fresh (Nat.le_refl _)
  obtain ⟨Z, ⟨m0, z0⟩, turn⟩ := q _ nD
  generalize hD : s2.heap.objs.size = D at nD z0 turn ⊢
  generalize hs3 : ({ s2 with heap := s2.heap.push { cls := .type "dict", data := .dict #[] } } : Shared) = s3
  have p3 : ∀ c o, s2.heap.get? c = some o → s3.heap.get? c = some o := fun c o e => by rw [← hs3]; exact Heap.get?_push_of_some _ e
  have n3 : s2.heap.objs.size < s3.heap.objs.size := by rw [← hs3]; show _ < (Heap.push _ _).objs.size; rw [Heap.size_push]; exact Nat.lt_succ_self _
  have I3 : L2.Inv X pins σ (upd H2 D (.dK [])) s3 := by
    rw [← hs3, ← hD]
    exact I2.laid (t' := s2.toks) (fun c o e => Heap.get?_push_of_some _ e) (Nat.le_refl _) (dk_empty s2.heap I2.big)
  have f3 : ∀ c ∈ fp, FpOk X pins (upd H2 D (.dK [])) c ∧ c < s3.heap.objs.size := fun c hc => by
    obtain ⟨o, e, _⟩ := T.obj _ _ st2 c hc
    have hlt := Heap.lt_size e
    refine ⟨⟨?_, (f2 c hc).2⟩, Nat.lt_trans hlt n3⟩
    rw [upd_ne (fun e => Nat.lt_irrefl _ (by rw [e, ← hD] at hlt; exact hlt))]
    exact (f2 c hc).1
  have st3 : tn 0 s3.heap := T.keep _ _ _ st2 fun c _ o e => p3 c o e
  have I4 := block_start I3 ok cn.nd f3
  generalize hcl : cellsFrom (s3.heap.objs.size + 1) scope.names (cloFrom X.env.cells scope.names []) = cl at I4
  generalize hH3 : upd H2 D (.dK []) = H3 at I3 I4 z0 f3
  have pg := hg s3 H3 s3.heap.objs.size cl fp
  have pt := ht s3 H3 s3.heap.objs.size cl fp
  have pk := hk s3 H3 s3.heap.objs.size cl fp
  have pv := he s3 H3 s3.heap.objs.size cl fp
  have cL : (compEnvC scope cl s3.heap.objs.size X.env).locals = s3.heap.objs.size := rfl
  generalize hce : compEnvC scope cl s3.heap.objs.size X.env = ce at I4 pg pt pk pv cL
  generalize hs4 : ({ s3 with heap := pushCells (s3.heap.push { cls := .type "dict", data := .dict #[] }) scope.names } : Shared) = s4 at I4
  have st4 : tn 0 s4.heap := T.keep _ _ _ st3 fun c _ o e => by rw [← hs4]; exact pushCells_keeps _ _ _ _ (Heap.get?_push_of_some _ e)
  have stand : ∀ {σ' : L2.St} {H' : Hp} {s' : Shared}, L2.Inv (X.blk s3 H3 scope ce fp) [] σ' H' s' → (∀ c ∈ fp, H' c = none) → ∀ c ∈ fp, FpOk (X.blk s3 H3 scope ce fp) [] H' c := fun {σ' H' s'} I' hn c hc =>
    ⟨hn c hc, (I'.ok.exf c hc).1, I'.ok.exfs c hc, .inl hc, fun x a e => (I'.ok.exf c hc).2 x a e, fun p hp => absurd (show p ∈ ([] : List (Addr × Obj)) ++ [] from hp) (by simp)⟩
  have room : (X.blk s3 H3 scope ce fp).A.units + 65 < cLine := cn.u65
  have loop : codeAny (model X.prog X.w) X.A (.compLoop (.DictComp kx vx [⟨tg, iter, ifs, 0⟩] scope pos) 0 (.ref it) (.ref D) ce) (compPost (model X.prog X.w) X.A X.xe none (EP X pins σ Q) (.ref D) s3.heap.objs.size) s4 := by
    refine compLoop_anyD (fun n s' => ∃ i H', L2.Inv (X.blk s3 H3 scope ce fp) [] (wipe σ (own.map (·.2))) H' s' ∧ tn i s'.heap ∧ (∀ c ∈ fp, H' c = none) ∧ Z i n H') ?_ m0 ⟨0, H3, I4, st4, fun c hc => (f3 c hc).1.1, z0⟩
    rintro n s5 ⟨i, H5, I5, st5, n5, z5⟩
    rcases turn i n H5 z5 with ⟨stop, fin⟩ | ⟨go, Nx, hNx, step⟩
    · refine thnF (T.done (X.blk s3 H3 scope ce fp) rfl rfl rfl cn.calm i [] s5 _ H5 (fun _ _ => False) I5 (stand I5 n5) st5 stop) ?_
      rintro r s6 ⟨rfl, I6⟩
      have I7 : L2.Inv X pins σ H5 s6 := I3.call' (ch := fp) I6.os I6.base I6.hok I6.bare fun c hc => ⟨(f3 c hc).1.2.2.2.1, (f3 c hc).1.2.1, (f3 c hc).1.2.2.2.2.1, (f3 c hc).1.2.2.2.2.2⟩
      have nC : H5 s3.heap.objs.size = none := by
        have z : H5 ce.locals = none := I6.free
        rw [cL] at z
        exact z
      obtain ⟨m, hn, _⟩ := I6.loc
      have hn : s6.heap.Ns ce.locals m := hn
      rw [cL] at hn
      obtain ⟨f0, f1, f4, f5, f6, f7⟩ := I3.fpOk (Nat.le_refl _) nC
      exact ⟨m, hn, fun h' sb => ⟨.ref D, H5, I7.turned (t' := s6.toks) (fun c o hc e => (sb.2 c hc).trans e) f0 f1 f5 f6 f7, rfl, fin⟩⟩
    · refine thnF (T.item (X.blk s3 H3 scope ce fp) rfl rfl rfl cn.calm i [] s5 _ H5 (fun _ _ => False) I5 (stand I5 n5) st5 go) ?_
      rintro r s6 ⟨u, rfl, h6⟩
      refine thnF h6 ?_
      rintro _ s7 ⟨x, H7, I7, r7, y7, st7, n7⟩
      have I7' := I7.pinned (stand I7 n7) (T.obj _ _ st7)
      refine thnF (pg.run _ s7 _ H7 x u _ I7' r7 (step x H7 y7)) ?_
      rintro _ s8 ⟨σ8, H8, I8, hw8, q8⟩
      refine thnF (pt.run _ s8 σ8 H8 _ I8 q8) ?_
      rintro c s9 ⟨H9, I9, q9⟩
      have next : ∀ {s' : Shared} {H' : Hp}, L2.Inv (X.blk s3 H3 scope ce fp) ([] ++ pinsAt fp s7.heap) σ8 H' s' → Nx H' → ∃ m, m < n ∧ ∃ i H', L2.Inv (X.blk s3 H3 scope ce fp) [] (wipe σ (own.map (·.2))) H' s' ∧ tn i s'.heap ∧ (∀ c ∈ fp, H' c = none) ∧ Z i m H' := fun {s' H'} I' nx => by
        obtain ⟨m', hm, w'⟩ := hNx H' nx
        have pinned : ∀ c ∈ fp, ∀ o, s7.heap.get? c = some o → s'.heap.get? c = some o ∧ H' c = none := fun c hc o e =>
          have z := I'.pin (c, o) (List.mem_append_right _ (List.mem_append_right _ (mem_pinsAt hc e)))
          ⟨z.1, z.2.1⟩
        refine ⟨m', hm, i + 1, H', (I'.unpinned (pins := [])).weak (by rw [← hw8, wipe_length]) (fun j v e => (wipe_some (by rw [hw8]; exact e)).1), T.keep _ _ _ st7 fun c hc o e => (pinned c hc o e).1, fun c hc => ?_, w'⟩
        obtain ⟨o, e, _⟩ := T.obj _ _ st7 c hc
        exact (pinned c hc o e).2
      cases c with
      | false =>
        simp only [Bool.false_eq_true, if_false] at q9 ⊢
        exact next I9 q9
      | true =>
        simp only [if_true] at q9 ⊢
        refine thnF (pk.run _ s9 σ8 H9 _ I9 q9) ?_
        rintro w1 s10 ⟨yk, H10, I10, r10, q10⟩
        refine thnF (pv.run _ s10 σ8 H10 _ I10 q10) ?_
        rintro w2 s11 ⟨yv, H11, I11, r11, kvs, kd, xd, tp, rk, rx, hf, hz, nx⟩
        exact dset_put (X := X.blk s3 H3 scope ce fp) room I11 tp rk rx hf hz r10 r11 fun ob s12 t2 I12 => next I12 (nx ob t2)
  subst hce
  exact codeAny_compStart_dict loop (T.self X.A 0 _ _ _ st4 loop)
end
end
end PV

set_option maxHeartbeats 4000000
/-! PV18: dict comprehensions in the small language. -/
namespace PV
open PySem L2
section
variable {X : Cx} {b : Bd} {W : WX}
theorem bind_ok {α β : Type} (a : α) (ρ : Rho) (f : α → Rho → R β) : (R.ok a ρ).bind f = f a ρ := rfl
/-- {k: v for target in iter if ..} -/
theorem dn_tm {y z : PV.X} {tg : Tg} {sk : Sk} {xs ifx : List PV.X} {vs : List Nat} {σ : L2.St} {H : Hp} {Q : VK} (gX : b.g = wd X) (hsub : ∀ i ∈ tgSl tg, i ∈ vs) (hval : ∀ i ∈ vs, b.ks[i]? = some .val ∧ i < σ.length) (hl : ∀ i, lentOf xs = some i → isOwn b.ks[i]? = true)
    (q : tR b W true (.dc y z tg sk xs ifx vs) σ H Q) : tDn X (tI b W sk xs) (gTg X.K tg) (tIfs b WF ifx) (tR b WF false y) (tR b WF false z) vs σ H Q := by
  obtain ⟨H0, M, B, ρ, G, q⟩ := q
  rw [evE] at q
  refine ⟨H0, M, B, ρ, G, ?_⟩
  cases he : evOs b.pg b.C xs ρ with
  | bad => rw [he] at q; exact q
  | exc c d ρ' => rw [he] at q; exact q
  | ok os ρ1 =>
    rw [he] at q
    simp only [bind_ok] at q
    cases hs : see ρ1 os with
    | none => simp only [hs] at q; exact q.elim
    | some ds0 =>
      cases hi : srcOf sk ds0 with
      | none => simp only [hs, hi] at q; exact q.elim
      | some items =>
        simp only [hs, hi] at q
        generalize hfe : (fun r => (evE b.pg b.C y r).bind fun x r1 => (evE b.pg b.C z r1).bind fun y r2 => R.ok (PyData.tuple [x, y]) r2) = fe at q
        generalize hfi : (fun r => evIf b.pg b.C ifx r) = fi at q
        cases hc : compL fe fi tg vs items (hide ρ1 (lentOf xs)) with
        | bad => simp only [hc] at q; exact q.elim
        | exc c d ρ' => simp only [hc] at q; exact q.elim
        | ok XS RE =>
          simp only [hc] at q
          cases hf : dictOf XS [] with
          | none => simp only [hf] at q; exact q.elim
          | some KV =>
            simp only [hf] at q
            refine ⟨ds0, items, hs, hi, fun J H1 k1 G1 wk D hD => ?_⟩
            generalize hN : OwnAt b.ks σ (hide ρ1 (lentOf xs)) = N at wk
            generalize hB1 : B.put b.ks σ ρ1 (hide ρ1 (lentOf xs)) = B1
            have Gr : Stt b.g b.T b.ks H1 N B1 H1 σ (hide ρ1 (lentOf xs)) := by
              rw [← hN, ← hB1]
              exact G1.rebase hide_len fun i d h => (hide_none h).1
            have nD1 : ¬ B1 D := by
              rw [← hB1]
              rintro (z1 | ⟨z1, _⟩)
              · exact G1.nb_new hD z1
              · exact noOwn_new G1 hD z1
            refine ⟨fun i m H2 => m = items.length - i ∧ i ≤ items.length ∧ ∃ ρc kvs, Kept H1 H2 ∧ Stt b.g b.T b.ks H1 N B1 H2 (wipe σ vs) (wipeR ρc vs) ∧ Top (wd X) H2 D (.dict kvs) ∧ ¬ OwnAt b.ks (wipe σ vs) (wipeR ρc vs) D ∧
              ∃ xs', compL fe fi tg vs (items.drop i) ρc = .ok xs' RE ∧ dictOf xs' kvs = some KV, ⟨items.length, by simp, Nat.zero_le _, hide ρ1 (lentOf xs), [], Kept.new hD, (Gr.same (same_new hD)).wipe vs, ⟨_, [], upd_same, .inl ⟨[], rfl, rfl⟩, by rw [RepKs]⟩, fun ⟨i, d, h1, h2, h3⟩ => ?_, XS, hc, hf⟩, ?_⟩
            · rw [wipe_get] at h3
              split at h3
              · cases h3
              · exact noOwn_new Gr hD ⟨i, d, (wipeR_get h1).1, h2, h3⟩
            rintro i m H2 ⟨rfl, hle, ρc, kvs, k2, G2, tD, nO, xs', hcl, htot⟩
            have fr : ∀ a o, H1 a = some o → ¬ N a → (∀ ps, o ≠ .tbl ps) → H2 a = some o := G2.frame
            by_cases hlt : i < items.length
            · have hd : items[i]? = some items[i] := List.getElem?_eq_getElem hlt
              obtain ⟨go, yl⟩ := wk.go i H2 _ k2 fr hd
              refine .inr ⟨go, fun H3 => ∃ ρc kvs, Kept H1 H3 ∧ Stt b.g b.T b.ks H1 N B1 H3 (wipe σ vs) (wipeR ρc vs) ∧ Top (wd X) H3 D (.dict kvs) ∧ ¬ OwnAt b.ks (wipe σ vs) (wipeR ρc vs) D ∧
                ∃ xs', compL fe fi tg vs (items.drop (i + 1)) ρc = .ok xs' RE ∧ dictOf xs' kvs = some KV, fun H3 h3 => ⟨items.length - (i + 1), by omega, rfl, hlt, h3⟩, fun x H3 hy => ?_⟩
              obtain ⟨s3, rx⟩ := yl x H3 hy
              have k3 := Kept.of_same s3
              have G3 := G2.same s3
              have tD3 : Top (wd X) H3 D (.dict kvs) := tD.mono k3 (by obtain ⟨u, ks, e, _⟩ := tD; rw [s3 _ _ e, e])
              have GL := G3.lend (p := D) (by obtain ⟨u, ks, e, _⟩ := tD3; rw [e]; exact fun z => nomatch z) nO
              rw [List.drop_eq_getElem_cons hlt] at hcl
              unfold compL at hcl
              cases ht : setTg tg items[i] (wipeR ρc vs) with
              | none => simp only [ht] at hcl; cases hcl
              | some ρt =>
                simp only [ht] at hcl
                rw [show X.K = b.g.K by rw [gX]]
                refine tg_ok (fun j hj => ?_) GL rx ht fun σ2 G4 b4 => ?_
                · obtain ⟨a1, a2⟩ := hval j (hsub j hj)
                  exact ⟨a1, by rw [wipe_length]; exact a2⟩
                have ew : wipe σ2 vs = wipe σ vs := by rw [wipe_but b4 hsub, wipe_wipe]
                refine ⟨ew, ?_⟩
                refine ⟨_, _, _, ρt, G4, ?_⟩
                have hfi' : evIf b.pg b.C ifx ρt = fi ρt := by rw [← hfi]
                rw [hfi']
                cases h5 : fi ρt with
                | bad => rw [h5] at hcl; cases hcl
                | exc c d ρ' => rw [h5] at hcl; cases hcl
                | ok bb ρ2 =>
                  rw [h5] at hcl
                  intro H5 k5 G5
                  -- the turn's end
                  have fin : ∀ {ρ5 : Rho} {H6 : Hp}, Kept H3 H6 → Stt b.g b.T b.ks H3 (OwnAt b.ks (wipe σ vs) (wipeR ρc vs)) (B1.add D) H6 σ2 ρ5 → Top (wd X) H6 D (.dict kvs) ∧ Stt b.g b.T b.ks H1 N B1 H6 σ2 ρ5 ∧ ¬ OwnAt b.ks σ2 ρ5 D := fun {ρ5 H6} k6 G6 => by
                    obtain ⟨a1, a2⟩ := G3.unlend G6 k6
                    exact ⟨tD3.stay k6 (fun o z => G6.frame D o z nO fun ps e => tD3.code.2 ps (by rw [z, e])), a1, a2⟩
                  have wiped : ∀ {ρ5 : Rho}, ¬ OwnAt b.ks σ2 ρ5 D → ¬ OwnAt b.ks (wipe σ vs) (wipeR ρ5 vs) D := fun {ρ5} n ⟨j, w, h1, h2, h3⟩ => by
                    rw [← ew, wipe_get] at h3
                    split at h3
                    · cases h3
                    · exact n ⟨j, w, (wipeR_get h1).1, h2, h3⟩
                  cases bb with
                  | false =>
                    obtain ⟨a1, a2, a3⟩ := fin k5 G5
                    have a4 := a2.wipe vs
                    rw [ew] at a4
                    exact ⟨ρ2, kvs, k2.trans (k3.trans k5), a4, a1, wiped a3, xs', hcl, htot⟩
                  | true =>
                    rw [if_pos rfl]
                    refine ⟨_, _, _, ρ2, G5, ?_⟩
                    have hcl : (fe ρ2).bind (fun x ρ3 => (compL fe fi tg vs (items.drop (i + 1)) ρ3).bind fun xs ρ4 => R.ok (x :: xs) ρ4) = R.ok xs' RE := hcl
                    have hfe' : fe ρ2 = (evE b.pg b.C y ρ2).bind fun x r1 => (evE b.pg b.C z r1).bind fun y r2 => R.ok (PyData.tuple [x, y]) r2 := by rw [← hfe]
                    rw [hfe'] at hcl
                    cases h6 : evE b.pg b.C y ρ2 with
                    | bad => rw [h6] at hcl; cases hcl
                    | exc c d ρ' => rw [h6] at hcl; cases hcl
                    | ok kd ρ3 =>
                      rw [h6] at hcl
                      intro yv H6 k6 G6 ry
                      refine ⟨_, _, _, ρ3, G6, ?_⟩
                      have hcl : ((evE b.pg b.C z ρ3).bind fun y r2 => R.ok (PyData.tuple [kd, y]) r2).bind (fun x ρ3 => (compL fe fi tg vs (items.drop (i + 1)) ρ3).bind fun xs ρ4 => R.ok (x :: xs) ρ4) = R.ok xs' RE := hcl
                      cases h8 : evE b.pg b.C z ρ3 with
                      | bad => rw [h8] at hcl; cases hcl
                      | exc c d ρ' => rw [h8] at hcl; cases hcl
                      | ok xd ρ5 =>
                        rw [h8] at hcl
                        intro zv H7 k7 G7 rz
                        obtain ⟨a1, a2, a3⟩ := fin ((k5.trans k6).trans k7) G7
                        have hcl : (compL fe fi tg vs (items.drop (i + 1)) ρ5).bind (fun xs ρ4 => R.ok (PyData.tuple [kd, xd] :: xs) ρ4) = R.ok xs' RE := hcl
                        cases h7 : compL fe fi tg vs (items.drop (i + 1)) ρ5 with
                        | bad => rw [h7] at hcl; cases hcl
                        | exc c d ρ' => rw [h7] at hcl; cases hcl
                        | ok xs2 ρ4 =>
                          rw [h7] at hcl
                          cases hcl
                          unfold dictOf at htot
                          by_cases hq : (keyFits kd kvs && decide (kvs.length < sizeLine)) = true
                          · rw [if_pos hq] at htot
                            rw [Bool.and_eq_true, decide_eq_true_eq] at hq
                            have ek : Rep (wd X) H7 kd yv := by rw [← gX]; exact Rep.mono k7 _ ry.old
                            have ez : Rep (wd X) H7 xd zv := by rw [← gX]; exact rz.old
                            refine ⟨kvs, kd, xd, a1, ek, ez, hq.1, hq.2, fun ob tn => ⟨ρ5, dput kd xd kvs, ?_, ?_, tn, wiped a3, xs2, h7, htot⟩⟩
                            · exact (k2.trans (k3.trans ((k5.trans k6).trans k7))).newP (NF.of_none hD)
                            · have a4 := (a2.put (o := ob) a1.mut a3 nD1 (.inr hD) a1.code).wipe vs
                              rw [ew] at a4
                              exact a4
                          · rw [if_neg hq] at htot; cases htot
            · have ei : i = items.length := by omega
              refine .inl ⟨wk.stop i H2 k2 fr (by omega), ?_⟩
              rw [ei, List.drop_length] at hcl
              unfold compL at hcl
              cases hcl
              have htot : some kvs = some KV := htot
              cases htot
              -- the state behind
              have hk : ∀ j ∈ vs, b.ks[j]? = some .val := fun j hj => (hval j hj).1
              have nv : ∀ {j : Nat}, isOwn b.ks[j]? = true → j ∉ vs := fun {j} h1 h3 => by rw [hk j h3] at h1; cases h1
              rw [← hN, ← hB1] at G2
              have lenE : (wipeR RE vs).length = σ.length := by rw [G2.len, wipe_length]
              have G3 : Stt b.g b.T b.ks H0 M B H2 (wipe σ vs) (unhide ρ1 (lentOf xs) (wipeR RE vs)) := by
                refine G1.unbase (ρ₁ := hide ρ1 (lentOf xs)) (fun j d h => (hide_none h).1) G2 k2 unhide_len fun j d h => ?_
                rcases unhide_get h with ⟨h1, h2⟩ | ⟨h1, h2⟩
                · exact .inl h2
                · have ho := hl j h1
                  refine .inr ⟨h2, ho, by rw [h1]; exact hide_at h2, ?_⟩
                  rw [wipe_get, if_neg (fun z => nv ho z.1)]
              have G4 : Stt b.g b.T b.ks H0 M B H2 σ (unhide ρ1 (lentOf xs) (backR ρ1 RE vs)) := by
                have lc : RE.length = σ.length := by rw [← lenE, wipeR_len]
                refine G1.back k2 hk G3 (by rw [unhide_len, backR_len]; exact lc) fun j d h => ?_
                rcases unhide_get h with ⟨h1, h2⟩ | ⟨h1, h2⟩
                · rcases backR_get h2 with ⟨h3, h4⟩ | ⟨h3, h4⟩
                  · refine .inl ⟨h3, ?_⟩
                    have : (wipeR RE vs)[j]? = some (some d) := by
                      have : ∀ {us : List Nat}, j ∉ us → (wipeR RE us)[j]? = RE[j]? := by
                        intro us
                        induction us with
                        | nil => intro _; rfl
                        | cons u us ih =>
                          intro hu
                          simp only [List.mem_cons, not_or] at hu
                          unfold wipeR
                          rw [List.getElem?_set_ne (Ne.symm hu.1), ih hu.2]
                      rw [this h3]; exact h4
                    cases hlx : lentOf xs with
                    | none => exact this
                    | some u =>
                      rw [hlx] at h1
                      show ((wipeR RE vs).set u _)[j]? = _
                      rw [List.getElem?_set_ne (fun e => h1 (congrArg some e))]
                      exact this
                  · exact .inr ⟨h3, h4⟩
                · have ho := hl j h1
                  refine .inl ⟨nv ho, ?_⟩
                  rw [h1]
                  show ((wipeR RE vs).set j _)[j]? = _
                  have hj : j < (wipeR RE vs).length := by
                    rw [lenE, ← G1.len]
                    exact (List.getElem?_eq_some_iff.mp h2).1
                  rw [List.getElem?_set_self hj, h2]
                  rfl
              refine q _ H2 (k1.trans k2) G4 ?_
              unfold RR
              refine ⟨D, rfl, ⟨(NF.of_none hD).pre k1, fun ⟨j, d, h1, h2, h3⟩ => ?_, G1.nb_new hD, G1.new0 hD⟩, by rw [gX]; exact tD⟩
              rcases unhide_get h1 with ⟨h4, h5⟩ | ⟨h4, h5⟩
              · rcases backR_get h5 with ⟨h6, h7⟩ | ⟨h6, h7⟩
                · refine nO ⟨j, d, ?_, h2, by rw [wipe_get, if_neg (fun z => h6 z.1)]; exact h3⟩
                  have : ∀ {us : List Nat}, j ∉ us → (wipeR RE us)[j]? = RE[j]? := by
                    intro us
                    induction us with
                    | nil => intro _; rfl
                    | cons u us ih =>
                      intro hu
                      simp only [List.mem_cons, not_or] at hu
                      unfold wipeR
                      rw [List.getElem?_set_ne (Ne.symm hu.1), ih hu.2]
                  rw [this h6]; exact h7
                · exact nv h2 h6
              · exact noOwn_new G1 hD ⟨j, d, h5, h2, h3⟩


section
variable {y z : PV.X} {tg : Tg} {sk : Sk} {xs ifx : List PV.X} {vs : List Nat} {kx elt target iter : Expr} {ifs : List Expr} {scope : Scope} {own : List (Str × Nat)} {pos : Pos}
theorem eDc (cn : Cn X b W) (hi : PI X target iter (tI b W sk xs)) (ok : BlkOk X.N X.env.scope scope own) (hv : own.map (·.2) = vs) (lk : lcOk b.ks xs tg vs X.N.length = true)
    (hg : ∀ (s : Shared) (H : Hp) (C : Addr) (cl : List (Str × Addr)) (fp : List Addr), PG (X.blk s H scope (compEnvC scope cl C X.env) fp) target (gTg X.K tg))
    (ht : ∀ (s : Shared) (H : Hp) (C : Addr) (cl : List (Str × Addr)) (fp : List Addr), Cn (X.blk s H scope (compEnvC scope cl C X.env) fp) b WF → PTs (X.blk s H scope (compEnvC scope cl C X.env) fp) ifs (tIfs b WF ifx))
    (hk : ∀ (s : Shared) (H : Hp) (C : Addr) (cl : List (Str × Addr)) (fp : List Addr), Cn (X.blk s H scope (compEnvC scope cl C X.env) fp) b WF → PE (X.blk s H scope (compEnvC scope cl C X.env) fp) kx (tR b WF false y))
    (he : ∀ (s : Shared) (H : Hp) (C : Addr) (cl : List (Str × Addr)) (fp : List Addr), Cn (X.blk s H scope (compEnvC scope cl C X.env) fp) b WF → PE (X.blk s H scope (compEnvC scope cl C X.env) fp) elt (tR b WF false z))
    (hs : ∀ x, foldedSetIterable iter X.env x = pure x := by intro _; rfl) : PE X (.DictComp kx elt [⟨target, iter, ifs, 0⟩] scope pos) (tR b W true (.dc y z tg sk xs ifx vs)) := by
  obtain ⟨h1, h2, h3⟩ := lcOk_by lk
  refine PV.PE.len (pe_dn cn hi ok hg (fun s H C cl fp => ht s H C cl fp (cn.blk s H scope _ fp)) (fun s H C cl fp => hk s H C cl fp (cn.blk s H scope _ fp)) (fun s H C cl fp => he s H C cl fp (cn.blk s H scope _ fp)) hs) fun σ H Q hl q => ?_
  rw [hv]
  exact dn_tm (by rw [cn.g]) h1 (fun i hi => by rw [hl]; exact h2 i hi) h3 q
end
end
end PV

set_option maxHeartbeats 4000000
/-! PV19: keys of a sort. -/
namespace PV
open PySem L2 PySem.W PyProof.Rows

mutual
theorem kfit_nil {h : Heap} : ∀ (d : D) {v : Value} {as : List Addr}, kfit d = true → Reads h v d as → as = []
  | .none, _, _, _, r => by cases r; rfl
  | .bool _, _, _, _, r => by cases r; rfl
  | .int _, _, _, _, r => by cases r; rfl
  | .str _, _, _, _, r => by cases r; rfl
  | .tuple ds, _, _, k, r => by
    rw [kfit, Bool.and_eq_true] at k
    cases r with
    | tuple h1 h2 h3 h4 => exact kfits_nil ds k.2 h4
  | .list _, _, _, k, _ => by rw [kfit] at k; cases k
  | .dict _, _, _, k, _ => by rw [kfit] at k; cases k
theorem kfits_nil {h : Heap} : ∀ (ds : List D) {vs : List Value} {as : List Addr}, kfits ds = true → ReadsAll h vs ds as → as = []
  | [], _, _, _, r => by cases r; rfl
  | d :: ds, _, _, k, r => by
    rw [kfits, Bool.and_eq_true] at k
    cases r with
    | cons r1 r2 => rw [kfit_nil d k.1 r1, kfits_nil ds k.2 r2]; rfl
end
/-- what stands around a key expression -/
structure KSt (mg : Str → Option Value) (env : PySem.Env) (row : Str) (v : Value) (h : Heap) : Prop where
  kind : env.scope.kind = .function
  eg : env.globals = mainGlobals
  eb : env.builtins = builtinsNs
  rl : env.kindOf row = some .local
  loc : ∃ m, h.Ns env.locals m ∧ m row = some v
  glob : h.Ns mainGlobals mg
  blt : ∃ mb, h.Ns builtinsNs mb ∧ ∀ x : Str, x ≠ "__name__" → mb x = bootBuiltins x
def KpH (h h' : Heap) : Prop := ∀ b o, h.get? b = some o → h'.get? b = some o
theorem KSt.keeps {mg : Str → Option Value} {env : PySem.Env} {row : Str} {v : Value} {h h' : Heap} (S : KSt mg env row v h) (k : KpH h h') : KSt mg env row v h' :=
  ⟨S.kind, S.eg, S.eb, S.rl, let ⟨m, a, b⟩ := S.loc; ⟨m, a.keeps k, b⟩, S.glob.keeps k, let ⟨m, a, b⟩ := S.blt; ⟨m, a.keeps k, b⟩⟩
section
variable {prog : Program} {w : World} {mg : Str → Option Value} {sc : Scope} {row : Str} {pg : Pg} {C : Orc}
/-- a key expression gives what the evaluator says -/
def KX (prog : Program) (w : World) (mg : Str → Option Value) (sc : Scope) (row : Str) (pg : Pg) (C : Orc) (e : Expr) (x : PV.X) : Prop :=
  ∀ (d k : D) (ρ : Rho), kfit d = true → evE pg C x [some d] = .ok k ρ → ρ = [some d] ∧ kfit k = true ∧
    ∀ (A : Around) (env : PySem.Env) (s : Shared) (v : Value), env.scope = sc → KSt mg env row v s.heap → Reads s.heap v d [] →
      wpAny (model prog w) A (eval e env) (fun u s' => KeyPure k s u s') (fun _ _ => False) s
theorem kx_row {pos : Pos} (hd : (row == ("__debug__" : Str)) = false := by decide) : KX prog w mg sc row pg C (.Name row pos) (.var 0) := by
  intro d k ρ hk he
  rw [evE] at he
  cases he
  refine ⟨rfl, hk, fun A env s v _ S r => ?_⟩
  obtain ⟨m, h1, h2⟩ := S.loc
  exact wpAny_Name (wpAny_loadName_local S.kind S.rl h1 h2 ⟨s.heap, s.toks, rfl, fun _ _ e => e, r⟩) hd
theorem readsAll_len {h : Heap} : ∀ {ds : List D} {vs : List Value} {as : List Addr}, ReadsAll h vs ds as → vs.length = ds.length
  | [], _, _, r => by cases r; rfl
  | d :: ds, _, _, r => by
    cases r with
    | cons r1 r2 => rw [List.length_cons, List.length_cons, readsAll_len r2]
theorem kx_len {a : Expr} {x : PV.X} {p pos : Pos} (ha : KX prog w mg sc row pg C a x) (hp : isPlace x = false) (hl : sc.names.lookup ("len" : Str) = some NameKind.globalImplicit) (hm : mg "len" = none)
    (hs : ∀ env, starEach [a] env = (false, eval a env) :: starEach [] env := by intro _; rfl) : KX prog w mg sc row pg C (.Call (.Name "len" p) [a] [] pos) (.op .len [x]) := by
  intro d k ρ hk he
  rw [evE, evOs_val hp] at he
  cases h1 : evE pg C x [some d] with
  | bad => rw [h1] at he; cases he
  | exc c d ρ' => rw [h1] at he; cases he
  | ok y ρ1 =>
    obtain ⟨e1, hy, run⟩ := ha d y ρ1 hk h1
    subst e1
    rw [h1] at he
    have he : (match pLen [y] with | some d' => R.ok d' [some d] | none => R.bad) = R.ok k ρ := he
    -- by the kind of y
    have core : ∀ n : Nat, R.ok (PyData.int n) [some d] = R.ok k ρ → n ≤ sizeLine → (∀ (A : Around) (s : Shared) (v : Value) (Q : Value → Shared → Prop), Reads s.heap v y [] → Q (.int n (s.toks + 1)) { s with toks := s.toks + 1 + 1 } → wpAny (model prog w) A (call (.builtin "len") [v]) Q (fun _ _ => False) s) →
        ρ = [some d] ∧ kfit k = true ∧ ∀ (A : Around) (env : PySem.Env) (s : Shared) (v : Value), env.scope = sc → KSt mg env row v s.heap → Reads s.heap v d [] →
          wpAny (model prog w) A (eval (.Call (.Name "len" p) [a] [] pos) env) (fun u s' => KeyPure k s u s') (fun _ _ => False) s := fun n e hn hc => by
      cases e
      refine ⟨rfl, rfl, fun A env s v es S r => ?_⟩
      obtain ⟨mb, b1, b2⟩ := S.blt
      refine wpAny_Call_Name_kw (Calls.Name_function_global S.kind (show env.scope.names.lookup _ = _ by rw [es]; exact hl) (Calls.loadGlobal_builtin (v := .builtin "len") (by rw [S.eg]; exact S.glob) hm (by rw [S.eb]; exact b1) ((b2 _ (by decide)).trans (by decide +kernel)) ?_) (by decide))
      refine PyProof.Rows.callWith_builtin1 (wpAny_items_cons (wpAny_mono (run A env s v es S r) (fun u s1 q => ?_) fun _ _ q => q) (hs env)) (hs env) rfl
      obtain ⟨h', tk, rfl, kp, r1⟩ := q
      exact wpAny_items_nil (hc A _ u _ r1 ⟨h', tk + 1 + 1, rfl, kp, .int _ _⟩)
    cases y with
    | tuple ds =>
      rw [kfit, Bool.and_eq_true] at hy
      refine core ds.length he (fitsLn_le hy.1) fun A s v Q r q => ?_
      cases r with
      | tuple h1 h2 h3 h4 =>
        rename_i a o vs n
        have hn : vs.size = ds.length := by rw [← readsAll_len h4, Array.length_toList]
        have hz := fitsLn_le hy.1
        rw [sizeLine_eq] at hz
        exact len_tuple ⟨o, h1, h2, n, h3⟩ (by omega) (by rw [hn]; exact q)
    | str t =>
      have he : (match (if fitsLn t.length then some (PyData.int t.length) else none) with | some d' => R.ok d' [some d] | none => R.bad) = R.ok k ρ := he
      cases hf : fitsLn t.length with
      | false => rw [hf] at he; cases he
      | true =>
        rw [hf] at he
        have hz := fitsLn_le hf
        refine core t.length he hz fun A s v Q r q => ?_
        cases r
        rw [sizeLine_eq] at hz
        exact len_str (by omega) q
    | list _ => rw [kfit] at hy; cases hy
    | dict _ => rw [kfit] at hy; cases hy
    | _ => cases he
/-- key expressions in a row -/
def KXs (prog : Program) (w : World) (mg : Str → Option Value) (sc : Scope) (row : Str) (pg : Pg) (C : Orc) (es : List Expr) (xs : List PV.X) : Prop :=
  ∀ (d : D) (ks : List D) (ρ : Rho), kfit d = true → evEs pg C xs [some d] = .ok ks ρ → ρ = [some d] ∧ kfits ks = true ∧
    ∀ (A : Around) (env : PySem.Env) (s : Shared) (v : Value) (pos : Pos) (Q : List Value → Shared → Prop), env.scope = sc → KSt mg env row v s.heap → Reads s.heap v d [] →
      (∀ us h' tk, KpH s.heap h' → ReadsAll h' us ks [] → Q us { s with heap := h', toks := tk }) → wpAny (model prog w) A (spliced (backTo pos (starEach es env))) Q (fun _ _ => False) s
theorem kxs_nil : KXs prog w mg sc row pg C [] [] := by
  intro d ks ρ hk he
  rw [evEs] at he
  cases he
  exact ⟨rfl, rfl, fun A env s v pos Q es S r q => wpAny_items_nil (q [] s.heap s.toks (fun _ _ e => e) .nil)⟩
theorem kxs_cons {e : Expr} {es : List Expr} {x : PV.X} {xs : List PV.X} (ha : KX prog w mg sc row pg C e x) (hb : KXs prog w mg sc row pg C es xs) (hs : noStar e = true) : KXs prog w mg sc row pg C (e :: es) (x :: xs) := by
  intro d ks ρ hk he
  rw [evEs] at he
  cases h1 : evE pg C x [some d] with
  | bad => rw [h1] at he; cases he
  | exc c d ρ' => rw [h1] at he; cases he
  | ok y ρ1 =>
    obtain ⟨e1, hy, run⟩ := ha d y ρ1 hk h1
    subst e1
    rw [h1] at he
    have he : (evEs pg C xs [some d]).bind (fun ds ρ2 => R.ok (y :: ds) ρ2) = R.ok ks ρ := he
    cases h2 : evEs pg C xs [some d] with
    | bad => rw [h2] at he; cases he
    | exc c d ρ' => rw [h2] at he; cases he
    | ok ys ρ2 =>
      obtain ⟨e2, hys, run2⟩ := hb d ys ρ2 hk h2
      rw [h2] at he
      cases he
      refine ⟨e2, by rw [kfits, hy, hys]; rfl, fun A env s v pos Q esc S r q => ?_⟩
      refine wpAny_items_cons (wpAny_mono (run A env s v esc S r) (fun u s1 q1 => ?_) fun _ _ z => z) (star_cons hs es env)
      obtain ⟨h', tk, rfl, kp, r1⟩ := q1
      exact run2 A env _ v pos _ esc (S.keeps kp) (Reads.keeps kp r) fun us h2 tk2 kp2 rs => q (u :: us) h2 tk2 (fun b o e => kp2 b o (kp b o e)) (.cons (as := []) (bs := []) (Reads.keeps kp2 r1) rs)
theorem kx_tup {es : List Expr} {xs : List PV.X} {n : Nat} {pos : Pos} (h : KXs prog w mg sc row pg C es xs) : KX prog w mg sc row pg C (.Tuple es n pos) (.tup xs) := by
  intro d k ρ hk he
  rw [evE] at he
  cases h1 : evEs pg C xs [some d] with
  | bad => rw [h1] at he; cases he
  | exc c d ρ' => rw [h1] at he; cases he
  | ok ys ρ1 =>
    obtain ⟨e1, hy, run⟩ := h d ys ρ1 hk h1
    subst e1
    rw [h1] at he
    have he : (if fitsLn ys.length then R.ok (PyData.tuple ys) [some d] else R.bad) = R.ok k ρ := he
    cases hf : fitsLn ys.length with
    | false => rw [hf] at he; cases he
    | true =>
      rw [hf] at he
      cases he
      refine ⟨rfl, by rw [kfit, hf, hy]; rfl, fun A env s v esc S r => ?_⟩
      refine wpAny_Tuple (run A env s v pos _ esc S r fun us h' tk kp rs => ⟨by rw [readsAll_len rs]; exact fitsLn_le hf, ?_⟩)
      exact ⟨_, tk, rfl, fun b o e => Heap.get?_push_of_some _ (kp b o e), .tuple (Heap.get?_push_size _ rfl) rfl rfl (ReadsAll.keeps (fun b o e => Heap.get?_push_of_some _ e) rs)⟩
/-- the key of one item -/
theorem key_turn {A : Around} {qual : Str} {params : Arguments} {body : Expr} {clos : List (Str × Addr)} {pm ctv : Value} {f c' : Addr} {x : PV.X} {d k : D} {ρ : Rho} {s : Shared} {v : Value}
    (hx : KX prog w mg sc row pg C body x) (hk : kfit d = true) (he : evE pg C x [some d] = .ok k ρ) (hroom : A.depth < recursionLimit)
    (kind : sc.kind = .function) (co : sc.isCoroutine = false) (gen : sc.isGenerator = false) (hcell : ∀ y ∈ sc.names, y.2 ≠ .cell) (hrow : sc.names.lookup row = some .local)
    (hbind : ∀ v, bindArgs (PySem.W.kla_fn "<lambda>" qual params body sc clos pm (.ref c') ctv) ⟨[v], []⟩ = pure [(row, v)])
    (ho : s.heap.get? f = some (PySem.W.kla_obj "<lambda>" qual params body sc clos pm c' ctv)) (hcd : s.heap.CodeRec (.ref c') qual) (nl : s.heap.NoLimit) (glob : s.heap.Ns mainGlobals mg) (blt : ∃ mb, s.heap.Ns builtinsNs mb ∧ ∀ x : Str, x ≠ "__name__" → mb x = bootBuiltins x)
    (r : Reads s.heap v d []) : wpAny (model prog w) A (call (.ref f) [v]) (KeyPure k s) (fun _ _ => False) s := by
  obtain ⟨_, _, run⟩ := hx d k ρ hk he
  refine wpAny_call (PySem.W.kla_callFunE hroom ho rfl co gen rfl hcd ?_)
  rw [hbind]
  refine wpAny_pure (wpAny_newFunctionEnv hcell (fun y hy => ?_) (fun h₁ hns hsb => ⟨nl.fresh _ hsb, ?_⟩) kind)
  · rw [List.mem_singleton] at hy
    rw [hy]
    exact hrow
  have kp : ∀ b o, s.heap.get? b = some o → h₁.get? b = some o := fun b o e => hsb.extBut b o (Nat.ne_of_lt (Heap.lt_size e)) (Heap.get?_push_of_some _ e)
  obtain ⟨mb, b1, b2⟩ := blt
  refine PySem.W.kla_codeExpr (wpAny_mono (run _ _ { s with heap := h₁, toks := s.toks + 1 } v rfl ⟨kind, rfl, rfl, hrow, ⟨_, hns, ?_⟩, glob.keeps kp, mb, b1.keeps kp, b2⟩ (Reads.keeps kp r)) (fun u s' q => ?_) fun _ _ q => q.elim)
  · simp
  · obtain ⟨h', tk, rfl, k2, r2⟩ := q
    exact ⟨h', tk, rfl, fun b o e => k2 b o (kp b o e), r2⟩
end
end PV

set_option maxHeartbeats 4000000
/-! PV20: a lambda made; sorted(list, key=lambda). -/
namespace PV
open PySem L2 LamX

section
variable {X : Cx} {pins : List (Addr × Obj)} {σ : L2.St} {H : Hp} {s : Shared}
/-- what the making of a lambda leaves -/
structure Lamd (T : List (Addr × Str)) (X : Cx) (params : Arguments) (body : Expr) (scope : Scope) (H H1 : Hp) (s' : Shared) (f c' : Addr) (pm ctv : Value) : Prop where
  obj : s'.heap.get? f = some (PySem.W.kla_obj "<lambda>" (X.env.qual ++ "<lambda>") params body scope (cloFrom X.env.cells scope.names []) pm c' ctv)
  code : s'.heap.CodeRec (.ref c') (X.env.qual ++ "<lambda>")
  ext : ExtN H H1
  tabs : Tabs T H1
  dom : ∀ a, H1 a = none → H a = none
  tbl : ∀ a ps, H a = some (.tbl ps) → ∃ ps', H1 a = some (.tbl ps')
theorem lam_made {T : List (Addr × Str)} {c P : Addr} {params : Arguments} {body : Expr} {scope : Scope} {pos : Pos} {E : Value → Shared → Prop} {Q : Value → Shared → Prop} (I : L2.Inv X pins σ H s) (TB : TabB X.base X.mg c P) (hcode : X.env.code = .ref c)
    (hm : (P, X.env.qual ++ "<lambda>") ∈ T) (hu : ∀ p ∈ T, p.1 = P → p.2 = X.env.qual ++ "<lambda>") (hT : Tabs T H) (hdef : defaultsOf params X.env = ([], [])) (hfree : ∀ y ∈ scope.names, y.2 = .free → ∃ c, X.env.cells.lookup y.1 = some c)
    (q : ∀ (f c' : Addr) (pm ctv : Value) (H1 : Hp) (s' : Shared), L2.Inv X pins σ H1 s' → Lamd T X params body scope H H1 s' f c' pm ctv → Q (.ref f) s') : wpAny (model X.prog X.w) X.A (eval (.Lambda params body scope pos) X.env) Q E s := by
  obtain ⟨ps, tP, tri, seen⟩ := hT _ hm
  have oP : s.heap.get? P = some { cls := .none, data := .fields ps } := I.hok P _ tP
  have mP := TB.bm.keeps I.bk
  have mC := TB.code.keeps I.bk
  have mG := I.mod.glob.keeps I.bk
  have noCode : ∀ (z : Addr) (r : Array Value), CodeO z (X.env.qual ++ "<lambda>") ≠ HO.tbl r := fun z r => codeO_ne r
  refine PySem.W.kla_eval hdef ?_
  cases among : codeAmong pos ps.toList with
  | some cv =>
    obtain ⟨c', rfl, co⟩ := seen pos cv among
    refine PySem.W.kla_makeFunctionHit (mg := X.mg) (closure_ok hfree) I.ok.glob mG hcode mC oP tri among mP fun ctv h' tk up _ => ?_
    have up2 : ∀ b o, s.heap.get? b = some o → (h'.push (PySem.W.kla_obj "<lambda>" (X.env.qual ++ "<lambda>") params body scope (cloFrom X.env.cells scope.names []) ((X.mg "__name__").getD .none) c' ctv)).get? b = some o := fun b o e => Heap.get?_push_of_some _ (up b o e)
    obtain ⟨⟨oc, vs, t, e1, e2, e3⟩, _, _⟩ := I.hok c' _ co
    exact q _ c' _ ctv H _ (I.kept up2) ⟨Heap.get?_push_size _ rfl, ⟨c', oc, vs, t, rfl, up2 _ _ e1, e2, e3⟩, ExtN.refl H, hT, fun _ e => e, fun a r e => ⟨r, e⟩⟩
  | none =>
    refine PySem.W.kla_makeFunction (mg := X.mg) (closure_ok hfree) I.ok.glob mG hcode mC oP tri among TB.gP mP fun c' ctv h' tk up ge lt rec tab => ?_
    obtain ⟨_, oc, vs, t, ⟨⟩, e1, e2, e3⟩ := rec
    have n0 : H c' = none := I.hok.fresh ge
    have pc : P ≠ c' := fun e => by rw [e, n0] at tP; cases tP
    have J := inv_table (t' := tk) (more := #[rawInt pos.line, rawInt pos.col, .ref c']) (h' := h'.push (PySem.W.kla_obj "<lambda>" (X.env.qual ++ "<lambda>") params body scope (cloFrom X.env.cells scope.names []) ((X.mg "__name__").getD .none) c' ctv)) I tP
      (fun b o hb e => Heap.get?_push_of_some _ (up b o hb e)) (Heap.get?_push_of_some _ tab) ge ⟨oc, vs, t, Heap.get?_push_of_some _ e1, e2, e3⟩
    generalize hH : upd (upd H P (.tbl (ps ++ #[rawInt pos.line, rawInt pos.col, .ref c']))) c' (CodeO c' (X.env.qual ++ "<lambda>")) = H1 at J
    have atc : H1 c' = some (CodeO c' (X.env.qual ++ "<lambda>")) := by rw [← hH]; exact upd_same
    have atP : H1 P = some (.tbl (ps ++ #[rawInt pos.line, rawInt pos.col, .ref c'])) := by rw [← hH, upd_ne pc, upd_same]
    have els : ∀ a, a ≠ P → a ≠ c' → H1 a = H a := fun a x y => by rw [← hH, upd_ne y, upd_ne x]
    have notc : ∀ {a : Addr} {o : HO}, H a = some o → a ≠ c' := fun {a o} e z => by rw [z, n0] at e; cases e
    have ext : ExtN H H1 := fun a o e n => by
      rw [els a (fun z => ?_) (notc e)]
      · exact e
      · rw [z, tP] at e
        exact n ps (Option.some.inj e).symm
    refine q _ c' _ ctv H1 _ J ⟨Heap.get?_push_size _ rfl, ⟨c', oc, vs, t, rfl, Heap.get?_push_of_some _ e1, e2, e3⟩, ext, fun p hp => ?_, fun a e => ?_, fun a r e => ?_⟩
    · by_cases hP : p.1 = P
      · rw [hu p hp hP, hP]
        have lst : (ps ++ #[rawInt pos.line, rawInt pos.col, .ref c']).toList = ps.toList ++ [rawInt pos.line, rawInt pos.col, .ref c'] := by simp
        refine ⟨_, atP, ?_, fun pos' cv e => ?_⟩
        · rw [lst]
          exact PySem.TriplesOk_snoc _ _ _ _ tri
        · rw [lst] at e
          rcases among_app _ tri e with z | z
          · obtain ⟨c0, z1, z2⟩ := seen pos' cv z
            exact ⟨c0, z1, ext _ _ z2 (noCode c0)⟩
          · exact ⟨c', z, atc⟩
      · obtain ⟨r, r1, r2, r3⟩ := hT p hp
        refine ⟨r, (els _ hP (notc r1)).trans r1, r2, fun pos' cv e => ?_⟩
        obtain ⟨c0, z1, z2⟩ := r3 pos' cv e
        exact ⟨c0, z1, ext _ _ z2 codeO_ne⟩
    · by_cases hP : a = P
      · rw [hP, atP] at e; cases e
      · by_cases hc : a = c'
        · rw [hc]; exact n0
        · rw [← els a hP hc]; exact e
    · by_cases hP : a = P
      · exact ⟨_, by rw [hP]; exact atP⟩
      · exact ⟨r, by rw [els a hP (notc e)]; exact e⟩
theorem Lamd.kept {T : List (Addr × Str)} {params : Arguments} {body : Expr} {scope : Scope} {H1 : Hp} {s' : Shared} {f c' : Addr} {pm ctv : Value} (L : Lamd T X params body scope H H1 s' f c' pm ctv) : Kept H H1 :=
  ⟨fun a xs e => L.ext a _ e (fun ps z => nomatch z), fun a o u e => L.ext a _ e (fun ps z => nomatch z), L.dom⟩
end
section
variable {g : Wd} {T : List (Addr × Str)} {ks : List Kd} {H0 H H' : Hp} {M : Addr → Prop} {B : Lent} {σ : L2.St} {ρ : Rho}
/-- tables written, code objects laid -/
theorem Stt.lamd (G : Stt g T ks H0 M B H σ ρ) (ext : ExtN H H') (tabs : Tabs T H') (dom : ∀ a, H' a = none → H a = none) (tbl : ∀ a ps, H a = some (.tbl ps) → ∃ ps', H' a = some (.tbl ps')) : Stt g T ks H0 M B H' σ ρ := by
  have k : Kept H H' := ⟨fun a xs e => ext a _ e (fun ps z => nomatch z), fun a o u e => ext a _ e (fun ps z => nomatch z), dom⟩
  have st : ∀ {p : Addr} {d : D}, Top g H p d → Top g H' p d := fun {p d} t => t.stay k fun o e => ext p o e fun ps z => t.code.2 ps (by rw [e, z])
  refine ⟨G.len, fun a o h n nt => ext a o (G.frame a o h n nt) nt, fun i d h1 h2 => ?_, G.bor, fun i d h1 h2 => ?_, G.apart, G.kinds, fun p hp n => G.bh p hp (dom p n), fun i d v h => ?_, tabs, fun a ps h => ?_⟩
  · obtain ⟨v, e, r⟩ := G.val i d h1 h2
    exact ⟨v, e, r.mono k⟩
  · obtain ⟨p, e, t, m⟩ := G.own i d h1 h2
    exact ⟨p, e, st t, m⟩
  · rcases G.bsl i d v h with r | ⟨p, e2, t, b⟩
    · exact .inl (r.mono k)
    · exact .inr ⟨p, e2, st t, b⟩
  · obtain ⟨ps', z⟩ := G.frT a ps h
    exact tbl a ps' z
end
section
open PySem.W PyProof.Rows
mutual
theorem kfit_plain : ∀ d : D, kfit d = true → d.plain = true
  | .none, _ => rfl
  | .bool _, _ => rfl
  | .int _, _ => rfl
  | .str _, _ => rfl
  | .tuple ds, h => by
    rw [kfit, Bool.and_eq_true] at h
    rw [PyData.plain]
    exact kfits_plain ds h.2
  | .list _, h => by rw [kfit] at h; cases h
  | .dict _, h => by rw [kfit] at h; cases h
theorem kfits_plain : ∀ ds : List D, kfits ds = true → PyData.plainAll ds = true
  | [], _ => rfl
  | d :: ds, h => by
    rw [kfits, Bool.and_eq_true] at h
    rw [PyData.plainAll, kfit_plain d h.1, kfits_plain ds h.2]
    rfl
end
theorem sortOk_by {ds : List D} (h : sortOk ds = true) : AllAlike ds ∧ Sortable ds ∧ (∀ d ∈ ds, d.depth ≤ 60) ∧ ds.length ≤ sizeLine := by
  unfold sortOk at h
  rw [Bool.and_eq_true, Bool.and_eq_true, Bool.and_eq_true] at h
  obtain ⟨⟨⟨h1, h2⟩, h3⟩, h4⟩ := h
  refine ⟨fun d hd d' hd' => ?_, ?_, fun d hd => ?_, fitsLn_le h4⟩
  · unfold alikeAlls at h1
    rw [List.all_eq_true] at h1
    exact List.all_eq_true.mp (h1 d hd) d' hd'
  · unfold sortableB at h2
    rw [Bool.or_eq_true, List.all_eq_true, List.all_eq_true] at h2
    rcases h2 with h | h
    · refine .inl fun d hd => ?_
      have := h d hd
      cases d with
      | tuple xs =>
        cases xs with
        | nil => cases this
        | cons y r => exact ⟨y, r, rfl⟩
      | _ => cases this
    · refine .inr fun d hd => ?_
      have := h d hd
      cases d with
      | none => cases this
      | tuple xs => cases this
      | _ => exact ⟨(fun z => nomatch z), fun xs z => nomatch z⟩
  · unfold depthsOk at h3
    exact of_decide_eq_true (List.all_eq_true.mp h3 d hd)
theorem keysR_zip {f : Rho → R D} : ∀ {ds ks : List D}, keysR f ds = some ks → ks.length = ds.length ∧ ∀ p ∈ ds.zip ks, ∃ ρ, f [some p.1] = .ok p.2 ρ
  | [], ks, h => by
    have h : some [] = some ks := h
    cases h
    exact ⟨rfl, fun p hp => nomatch hp⟩
  | d :: ds, ks, h => by
    unfold keysR at h
    cases q : f [some d] with
    | bad => rw [q] at h; cases h
    | exc c d ρ' => rw [q] at h; cases h
    | ok k ρ =>
      rw [q] at h
      have h : (keysR f ds).map (k :: ·) = some ks := h
      obtain ⟨r, h1, rfl⟩ := Option.map_eq_some_iff.mp h
      obtain ⟨a1, a2⟩ := keysR_zip h1
      refine ⟨by rw [List.length_cons, List.length_cons, a1], fun p hp => ?_⟩
      rw [List.zip_cons_cons] at hp
      rcases List.mem_cons.mp hp with z | z
      · exact ⟨ρ, by rw [z]; exact q⟩
      · exact a2 p z
/-- an item of the list that is sorted -/
def SItem (g : Wd) (H : Hp) (u : Value) (p : D × D) : Prop := ∃ v, RelV v u ∧ Rep g H p.1 v
theorem sitems {g : Wd} {H : Hp} : ∀ {ds ks : List D} {vs : List V} {us : List Value}, ks.length = ds.length → Reps g H ds vs → Vals vs us → EachIs (SItem g H) us (ds.zip ks)
  | [], ks, vs, us, hl, r, pr => by
    cases ks with
    | nil =>
      rw [Reps] at r
      subst r
      cases pr
      exact .nil
    | cons _ _ => cases hl
  | d :: ds, ks, vs, us, hl, r, pr => by
    cases ks with
    | nil => cases hl
    | cons k ks =>
      rw [Reps] at r
      obtain ⟨v, t, rfl, r1, r2⟩ := r
      cases pr with
      | cons a1 a2 => exact .cons ⟨v, a1, r1⟩ (sitems (Nat.succ.inj hl) r2 a2)
theorem sitems_back {g : Wd} {H : Hp} : ∀ {ps : List (D × D)} {us : List Value}, EachIs (SItem g H) us ps → ∃ vs, Vals vs us ∧ Reps g H (ps.map (·.1)) vs
  | [], us, h => by
    cases h
    exact ⟨[], .nil, .nil⟩
  | p :: ps, us, h => by
    cases h with
    | cons h1 h2 =>
      obtain ⟨v, r, q⟩ := h1
      obtain ⟨vs, a1, a2⟩ := sitems_back h2
      exact ⟨v :: vs, .cons r a1, .cons q a2⟩
variable {X : Cx} {b : Bd} {W : WX}
theorem eSortK {y x : PV.X} {e body : Expr} {params : Arguments} {scope : Scope} {c P : Addr} {lp p pos kp : Pos} {row : Str} (cn : Cn X b W) (TB : TabB X.base X.mg c P) (hcode : X.env.code = .ref c) (hm : (P, X.env.qual ++ "<lambda>") ∈ b.T)
    (hu : ∀ q ∈ b.T, q.1 = P → q.2 = X.env.qual ++ "<lambda>") (hdef : defaultsOf params X.env = ([], [])) (hfree : ∀ y ∈ scope.names, y.2 = .free → ∃ c, X.env.cells.lookup y.1 = some c) (gl : Gl X "sorted") (mn : X.mg "sorted" = none)
    (ha : PE X e (tO b W y)) (ns : noStar e = true) (hx : KX X.prog X.w X.mg scope row b.pg b.C body x) (kind : scope.kind = .function) (co : scope.isCoroutine = false) (gen : scope.isGenerator = false) (hcell : ∀ y ∈ scope.names, y.2 ≠ .cell)
    (hrow : scope.names.lookup row = some .local)
    (hbind : ∀ (pm ctv : Value) (c' : Addr) (v : Value), bindArgs (PySem.W.kla_fn "<lambda>" (X.env.qual ++ "<lambda>") params body scope (cloFrom X.env.cells scope.names []) pm (.ref c') ctv) ⟨[v], []⟩ = pure [(row, v)]) :
    PE X (.Call (.Name "sorted" p) [e] [⟨some "key", .Lambda params body scope lp, kp⟩] pos) (tR b W true (.sortk [y] x)) := by
  refine ⟨fun pins s σ H Q I h => ?_⟩
  obtain ⟨H0, M, B, ρ, G, q⟩ := h
  rw [evE] at q
  refine wpAny_Call_Name_kw (ld_blt I gl mn (u := .builtin "sorted") (by decide +kernel) ?_)
  refine callWith_kw (thn ((pa_ops (es := [e]) (xs := [y]) ⟨⟨ns, ha⟩, True.intro⟩).run pos pins s σ H (fun vs H1 => ∃ (ds ks : List D) (ρ1 : Rho) (v : V), vs = [v] ∧ Kept H H1 ∧ Stt b.g b.T b.ks H0 M B H1 σ ρ1 ∧ BRep b.g H1 (.list ds) v ∧ keysR (fun r => evE b.pg b.C x r) ds = some ks ∧ ds.all kfit = true ∧ sortOk ks = true ∧ fitsLn ds.length = true ∧
      aftE b W true H0 M B σ H Q (.ok (.list (((ds.zip ks).mergeSort (PySem.W.dataLe false (·.2))).map (·.1))) ρ1)) I ⟨H0, M, B, ρ, G, ?_⟩) fun us s1 hh => ?_) (by rw [star_cons ns]; rfl) (by rw [star_cons ns]; rfl)
  · cases he : evOs b.pg b.C [y] ρ with
    | bad => rw [he] at q; exact q
    | exc c d ρ' => rw [he] at q; exact q
    | ok os ρ1 =>
      rw [he] at q
      simp only [bind_ok] at q
      intro vs H1 k1 G1 r1
      cases hs : see ρ1 os with
      | none => simp only [hs] at q; exact q.elim
      | some ds0 =>
        simp only [hs] at q
        have rr := see_reps G1 hs r1
        match ds0, q, rr with
        | [.list ds], q, rr =>
          obtain ⟨v, t, rfl, rv, rt⟩ := rr
          cases rt
          cases hk : keysR (fun r => evE b.pg b.C x r) ds with
          | none => simp only [hk] at q; exact q.elim
          | some ks =>
            simp only [hk] at q
            by_cases hq : (ds.all kfit && sortOk ks && fitsLn ds.length) = true
            · rw [if_pos hq] at q
              rw [Bool.and_eq_true, Bool.and_eq_true] at hq
              exact ⟨ds, ks, ρ1, v, rfl, k1, G1, rv, hk, hq.1.1, hq.1.2, hq.2, q⟩
            · rw [if_neg hq] at q; exact q.elim
  · obtain ⟨vs0, H1, I1, rv0, ds, ks, ρ1, v0, rfl, k1, G1, rl, hks, hfit, hso, hln, qq⟩ := hh
    obtain ⟨l, vs, rfl, hl, hr⟩ := rl.lst
    cases rv0 with
    | cons a1 a2 =>
      cases a2
      have a1 : _ = Value.ref l := a1
      subst a1
      refine kws_cons (lam_made I1 TB hcode hm hu G1.tabs hdef hfree fun f c' pm ctv H2 s2 I2 L => kws_nil ?_)
      have k2 : Kept H1 H2 := L.kept
      have G2 := G1.lamd L.ext L.tabs L.dom L.tbl
      have hr2 : Reps b.g H2 ds vs := Reps.mono k2 _ hr
      have hl2 : LsA X.K H2 l vs := by
        rw [cn.g] at hl
        rcases hl with z | ⟨o, z⟩ | z
        · exact .inl (L.ext _ _ z fun ps z => nomatch z)
        · exact .inr (.inl ⟨o, L.ext _ _ z fun ps z => nomatch z⟩)
        · exact .inr (.inr z)
      obtain ⟨its, n, pr, hz, ol⟩ := lst_at I2 hl2
      obtain ⟨kl, kz⟩ := keysR_zip hks
      obtain ⟨s1', s2', s3', s4'⟩ := sortOk_by hso
      have em : (ds.zip ks).map (·.2) = ks := List.map_snd_zip (by omega)
      have lz : (ds.zip ks).length = ds.length := by rw [List.length_zip, kl, Nat.min_self]
      obtain ⟨mb, b1, b2⟩ := I2.mod.blt
      show wpAny (model X.prog X.w) X.A (call (.builtin "sorted") [.ref l] [(Str.ofString "key", .ref f)]) _ _ s2
      refine sorted_key_data (b := false) (vs := its) (bs := ds.zip ks) (R := SItem b.g H2) (fun p => p.2) ⟨_, ol, rfl, n, rfl⟩ (sitems kl hr2 pr) (by rw [em]; exact s1') (by rw [em]; exact s2') (by rw [lz]; exact fitsLn_le hln) (fun z hz => ?_) (ksk_s1 _ _) (fun _ => ksk_l1 _ _) (fun _ => ksk_t1 _ _) (fun u z hR hz h tk up => ?_) fun out cc h' tk up hnone hat hlen hE => ?_
      · have := s3' z.2 (by rw [← em]; exact List.mem_map_of_mem hz)
        have := cn.u65
        omega
      · obtain ⟨v, rv, rp⟩ := hR
        obtain ⟨ρ', hev⟩ := kz z hz
        have hfz : kfit z.1 = true := List.all_eq_true.mp hfit z.1 (List.of_mem_zip hz).1
        rw [cn.g] at rp
        obtain ⟨as, rd⟩ := Dp.reads I2 z.1 v u (Rep.dp _ (kfit_plain _ hfz) rp) rv
        have has := kfit_nil _ hfz rd
        subst has
        refine key_turn (s := { s2 with heap := h, toks := tk }) hx hfz hev ?_ kind co gen hcell hrow (hbind pm ctv c') (up _ _ L.obj) ?_ ?_ ((I2.mod.glob.keeps I2.bk).keeps up) ⟨mb, (b1.keeps I2.bk).keeps up, b2⟩ (Reads.keeps up rd)
        · exact cn.hr.depth
        · obtain ⟨c2, oc, vs2, t2, e0, e1, e2, e3⟩ := L.code
          exact ⟨c2, oc, vs2, t2, e0, up _ _ e1, e2, e3⟩
        · exact I2.nolimit.keeps up
      · obtain ⟨vs', pv, rs⟩ := sitems_back hE
        have nP : H2 (s2.heap.objs.size + 1) = none := I2.hok.fresh (Nat.le_succ _)
        have lo : (((ds.zip ks).mergeSort (dataLe false fun p => p.2)).map (·.1)).length = ds.length := by rw [List.length_map, List.length_mergeSort, lz]
        have lv : vs'.length = ds.length := by rw [rs.length, lo]
        refine ⟨.ref (s2.heap.objs.size + 1), _, I2.laid (t' := tk) (o := .lst vs') up (Nat.le_succ _) ⟨by rw [lv]; exact fitsLn_le hln, out, cc, pv, hat⟩, rfl, ?_⟩
        have same := same_new (o := HO.lst vs') nP
        refine qq _ _ (k1.trans (k2.trans (Kept.of_same same))) (G2.same same) ?_
        unfold RR
        refine ⟨_, rfl, ⟨((NF.of_none nP).pre k2).pre k1, fun ⟨i, d, h1, h2, h3⟩ => G2.ap_new nP i d h1 h2 h3, G2.nb_new nP, G2.new0 nP⟩, vs', upd_same, Reps.mono (Kept.of_same same) _ rs⟩
theorem noFree {ns : List (Str × NameKind)} {cs : List (Str × Addr)} (h : ∀ y ∈ ns, y.2 ≠ NameKind.free) : ∀ y ∈ ns, y.2 = NameKind.free → ∃ c, cs.lookup y.1 = some c := fun y hy e => absurd e (h y hy)
end
end PV

set_option maxHeartbeats 4000000
/-! PV21: what is never run; sorted; the constants of a text. -/
namespace PV
open PySem L2 PySem.W PyProof.Rows
section
variable {X : Cx} {b : Bd} {W : WX} {ws : List Nat} {e : Expr} {st : Stmt} {i : Nat} {x : PV.X} {nw : Bool}
/-- a statement that is never come to -/
theorem sStuck : PS X st (t1 b W ws (.delI i x)) := ⟨fun pins s σ H D I q => by
  obtain ⟨H0, M, B, ρ, G, q⟩ := q
  have q : aftS b W H0 M B ws σ H D (exS b.pg b.C (.delI i x) ρ) := q
  rw [exS] at q
  exact q.elim⟩
/-- an expression that is never come to -/
theorem eStuck : PE X e (tR b W nw (.and [])) := ⟨fun pins s σ H Q I q => by
  obtain ⟨H0, M, B, ρ, G, q⟩ := q
  rw [evE, evAnd] at q
  exact q.elim⟩

/-! ### sorted -/
mutual
theorem alike_plain : ∀ d : D, alike d d = true → d.plain = true
  | .none, _ => rfl
  | .bool _, _ => rfl
  | .int _, _ => rfl
  | .str _, _ => rfl
  | .list ds, h => by
    rw [PyData.plain]
    rw [alike] at h
    exact alikes_plain ds h
  | .tuple ds, h => by
    rw [PyData.plain]
    rw [alike] at h
    exact alikes_plain ds h
  | .dict _, h => by simp [alike] at h
theorem alikes_plain : ∀ ds : List D, alikeAll ds ds = true → PyData.plainAll ds = true
  | [], _ => rfl
  | d :: ds, h => by
    rw [alikeAll, Bool.and_eq_true] at h
    rw [PyData.plainAll, alike_plain d h.1, alikes_plain ds h.2]
    rfl
end
/-- an item of the list -/
def LItem (g : Wd) (H : Hp) (u : Value) (d : D) : Prop := ∃ v, RelV v u ∧ Rep g H d v
theorem litems {g : Wd} {H : Hp} : ∀ {ds : List D} {vs : List V} {us : List Value}, Reps g H ds vs → Vals vs us → EachIs (LItem g H) us ds
  | [], vs, us, r, pr => by
    rw [Reps] at r
    subst r
    cases pr
    exact .nil
  | d :: ds, vs, us, r, pr => by
    rw [Reps] at r
    obtain ⟨v, t, rfl, r1, r2⟩ := r
    cases pr with
    | cons a1 a2 => exact .cons ⟨v, a1, r1⟩ (litems r2 a2)
theorem litems_back {g : Wd} {H : Hp} : ∀ {ds : List D} {us : List Value}, EachIs (LItem g H) us ds → ∃ vs, Vals vs us ∧ Reps g H ds vs
  | [], us, h => by
    cases h
    exact ⟨[], .nil, .nil⟩
  | d :: ds, us, h => by
    cases h with
    | cons h1 h2 =>
      obtain ⟨v, r, q⟩ := h1
      obtain ⟨vs, a1, a2⟩ := litems_back h2
      exact ⟨v :: vs, .cons r a1, .cons q a2⟩
theorem cd_sort (hu : X.A.units + 65 < cLine) : CallD X .sort1 true (.builtin "sorted") := by
  intro pins s σ H xs us Q I r h
  obtain ⟨ds, z, hb, hp, k⟩ := h
  obtain ⟨d, rfl⟩ := only1 hp (fun z h => noD z h) (fun a b r z h => noD z (by cases a <;> exact h))
  obtain ⟨x, rfl, h1⟩ := arg1 hb rfl
  cases d <;> try (exact noCase (show (none : Option D) = some z from hp))
  case list es =>
    obtain ⟨ho, hz⟩ := if_some (show (if sortOk es = true then some (PyData.list (sortD es)) else none) = some z from hp)
    subst hz
    obtain ⟨s1', s2', s3', s4'⟩ := sortOk_by ho
    obtain ⟨a, vs, rfl, hl, r1⟩ := h1.lst
    obtain ⟨w, rfl, rw'⟩ := vals1 r
    cases (show w = Value.ref a from rw')
    obtain ⟨its, n, pr, hz, ol⟩ := lst_at I hl
    have ei := litems r1 pr
    have em : es.map id = es := List.map_id es
    refine sorted_data (enc := id) (R := LItem (wd X) H) (vs := its) ⟨_, ol, rfl, n, rfl⟩ ei ?_ (by rw [em]; exact s1') (by rw [em]; exact s2') s4' (fun b hb => ?_) fun out hlen hE => ?_
    · refine (each_mem ei).mono fun u d hd => ?_
      obtain ⟨⟨v, rv, rp⟩, hm⟩ := hd
      have al := s1' d hm d hm
      exact Dp.reads I d v u (Rep.dp _ (alike_plain _ al) rp) rv
    · have := s3' b hb
      show X.A.units + 2 + b.depth < cLine
      omega
    · obtain ⟨vs', pv, rs⟩ := litems_back hE
      have nP : H (s.heap.objs.size + 1) = none := I.hok.fresh (Nat.le_succ _)
      have lv : vs'.length = es.length := by
        rw [rs.length, List.length_mergeSort]
      obtain ⟨cc, hat⟩ := sortedAll_at s.heap its (List.toArray out)
      refine ⟨.ref (s.heap.objs.size + 1), _, I.laid (t' := s.toks) (o := .lst vs') (fun b o e => sortedAll_old e) (Nat.le_succ _) ⟨by rw [lv]; exact s4', out, cc, pv, hat⟩, rfl, ?_⟩
      exact k _ _ (same_new nP) (.lst rfl nP rs)

/-! ### constants -/
mutual
/-- the value u of the written part is the datum d -/
def constB (K : Frag) : D → Value → Bool
  | .none, .none => true
  | .bool p, .bool q => p == q
  | .int i, .int j _ => i == j
  | .str x, .str y _ => x == y
  | .tuple ds, .ref a => match K.lookup a with
    | some ⟨.type "tuple", _, .seq its _, _⟩ => decide (its.size ≤ sizeLine) && constBs K ds its.toList
    | _ => false
  | _, _ => false
def constBs (K : Frag) : List D → List Value → Bool
  | [], [] => true
  | d :: ds, u :: us => constB K d u && constBs K ds us
  | _, _ => false
end
mutual
theorem constB_ok {K : Frag} : ∀ (d : D) (u : Value), constB K d u = true → ∃ v, RelV v u ∧ isTopD d = false ∧ ∀ (P : Program) (w : World) (H : Hp), Rep ⟨P, w, K⟩ H d v
  | .none, u, h => by
    cases u with
    | none => exact ⟨.non, rfl, rfl, fun P w H => by rw [Rep]⟩
    | _ => simp [constB] at h
  | .bool p, u, h => by
    cases u with
    | bool q =>
      have : p = q := by simpa [constB] using h
      subst this
      exact ⟨.bl p, rfl, rfl, fun P w H => by rw [Rep]⟩
    | _ => simp [constB] at h
  | .int p, u, h => by
    cases u with
    | int q t =>
      have : p = q := by simpa [constB] using h
      subst this
      exact ⟨.int p, ⟨t, rfl⟩, rfl, fun P w H => by rw [Rep]⟩
    | _ => simp [constB] at h
  | .str p, u, h => by
    cases u with
    | str q t =>
      have : p = q := by simpa [constB] using h
      subst this
      exact ⟨.str p, ⟨t, rfl⟩, rfl, fun P w H => by rw [Rep]⟩
    | _ => simp [constB] at h
  | .tuple ds, u, h => by
    cases u with
    | ref a =>
      rw [constB] at h
      split at h
      · rename_i od its n sl hk
        rw [Bool.and_eq_true, decide_eq_true_eq] at h
        obtain ⟨vs, r1, r2⟩ := constBs_ok ds its.toList h.2
        exact ⟨.ref a, rfl, rfl, fun P w H => by
          rw [Rep]
          exact ⟨a, vs, rfl, .inr ⟨_, its, n, hk, rfl, rfl, h.1, r1⟩, r2 P w H⟩⟩
      · cases h
    | _ => simp [constB] at h
  | .list _, u, h => by cases u <;> simp [constB] at h
  | .dict _, u, h => by cases u <;> simp [constB] at h
theorem constBs_ok {K : Frag} : ∀ (ds : List D) (us : List Value), constBs K ds us = true → ∃ vs, Vals vs us ∧ ∀ (P : Program) (w : World) (H : Hp), Reps ⟨P, w, K⟩ H ds vs
  | [], [], _ => ⟨[], .nil, fun P w H => by rw [Reps]⟩
  | [], _ :: _, h => by simp [constBs] at h
  | _ :: _, [], h => by simp [constBs] at h
  | d :: ds, u :: us, h => by
    rw [constBs, Bool.and_eq_true] at h
    obtain ⟨v, r1, _, r2⟩ := constB_ok d u h.1
    obtain ⟨vs, r3, r4⟩ := constBs_ok ds us h.2
    exact ⟨v :: vs, .cons r1 r3, fun P w H => by
      rw [Reps]
      exact ⟨v, vs, rfl, r2 P w H, r4 P w H⟩⟩
end
/-- the text's constant x is the datum d -/
def ConstAt (K : Frag) (mg : Str → Option Value) (x : Str) (d : D) : Prop := ∃ (u : Value) (v : V), mg x = some u ∧ RelV v u ∧ isTopD d = false ∧ ∀ (P : Program) (w : World) (H : Hp), Rep ⟨P, w, K⟩ H d v
theorem constAt {K : Frag} {h : Heap} {mg : Str → Option Value} {x : Str} {d : D} {u : Value} (KX : K.In h) (G : h.Ns mainGlobals mg) (a : nsIn K mainGlobals x = some (some u)) (c : constB K d u = true) : ConstAt K mg x d := by
  obtain ⟨v, r1, r2, r3⟩ := constB_ok d u c
  exact ⟨u, v, mg_of KX G a, r1, r2, r3⟩
theorem eGlo {j : Nat} {n : Str} {d : D} {pos : Pos} (cn : Cn X b W) (c : ConstAt X.K X.mg n d) (hj : b.pg.G[j]? = some d) (hg : Gl X n) (hd : (n == ("__debug__" : Str)) = false := by decide) : PE X (.Name n pos) (tR b W nw (.glo j)) := by
  obtain ⟨u, v, hm, r, ht, rp⟩ := c
  refine PV.PE.imp (pe_glob hg hm r hd) fun σ H Q q => ?_
  obtain ⟨H0, M, B, ρ, G, q⟩ := q
  rw [evE] at q
  simp only [hj] at q
  refine q v H (Kept.refl H) G ?_
  unfold RR
  rw [if_neg (by rw [ht]; simp)]
  rw [cn.g]
  exact rp _ _ _
end
end PV

set_option maxHeartbeats 4000000
/-! PV22: dict comprehensions of two clauses, by the machine. -/
namespace PV
open PySem L2 PySem.Spec PyProof.Rows

/-- the comprehension, its clauses without tests -/
abbrev dc2E (dk dv ta sa tb sb : Expr) (scope : Scope) (pos : Pos) : Expr := .DictComp dk dv [⟨ta, sa, [], 0⟩, ⟨tb, sb, [], 0⟩] scope pos
theorem turnA (dk dv ta sa tb sb : Expr) (scope : Scope) (pos : Pos) (it : Value) (D : Addr) (env : Env) :
    compTurn (dc2E dk dv ta sa tb sb scope pos) 0 it (.ref D) env = (do
      standAt sa.pos
      match ← pyNext it with
      | none => pure (.done .next)
      | some v =>
        letOwnedTupleGo ta it v
        assign ta env v
        let mut good := true
        for c in ([] : List Expr) do
          if good then good ← isTrue c env (eval c env)
        if good then
          let x ← eval sb env
          standAt sb.pos
          let x ← foldedSetIterable sb env x
          let _ ← runOwn (.compStart (dc2E dk dv ta sa tb sb scope pos) 1 (← holding [x] (pyIter x)) (.ref D) env) env
        again (.compLoop (dc2E dk dv ta sa tb sb scope pos) 0 it (.ref D) env)) := by rfl
theorem turnB (dk dv ta sa tb sb : Expr) (scope : Scope) (pos : Pos) (it : Value) (D : Addr) (env : Env) :
    compTurn (dc2E dk dv ta sa tb sb scope pos) 1 it (.ref D) env = (do
      standAt sb.pos
      match ← pyNext it with
      | none => pure (.done .next)
      | some v =>
        letOwnedTupleGo tb it v
        assign tb env v
        let mut good := true
        for c in ([] : List Expr) do
          if good then good ← isTrue c env (eval c env)
        if good then
          (do
            let yk ← eval dk env
            let yv ← holding [yk] (eval dv env)
            standAt { dk.pos with endLine := dv.pos.endLine, endCol := dv.pos.endCol }
            holding [yk, yv] (dictSet D yk yv))
        again (.compLoop (dc2E dk dv ta sa tb sb scope pos) 1 it (.ref D) env)) := by rfl
section
variable {P : Program} {w : World} {A : Around} {Z : Result → Shared → Prop} {s : Shared} {dk dv ta sa tb sb : Expr} {scope : Scope} {pos : Pos} {it : Value} {D : Addr} {env : Env}
abbrev nZ (P : Program) (w : World) (A : Around) (env : Env) (Z : Result → Shared → Prop) : Value → Shared → Prop := notedBy (model P w) A env fun e s' => Z (.error e) s'
theorem loopA (hs : ∀ x, foldedSetIterable sb env x = pure x) (I : Nat → Shared → Prop)
    (go : ∀ n s, I n s → wpAny (model P w) A (pyNext it) (fun r s1 => match r with
      | none => Z (.ok .next) s1
      | some v => wpAny (model P w) A (letOwnedTupleGo ta it v) (fun _ s2 => wpAny (model P w) A (assign ta env v) (fun _ s3 => wpAny (model P w) A (eval sb env) (fun x s4 => wpAny (model P w) A (pyIter x) (fun jt s5 =>
          codeAny (model P w) A (.compStart (dc2E dk dv ta sa tb sb scope pos) 1 jt (.ref D) env) (fun r s' => match r with
            | .ok _ => ∃ m, m < n ∧ I m s'
            | .error _ => False) s5) (nZ P w A env Z) s4) (nZ P w A env Z) s3) (nZ P w A env Z) s2) (nZ P w A env Z) s1) (nZ P w A env Z) s)
    (n : Nat) (h : I n s) : codeAny (model P w) A (.compLoop (dc2E dk dv ta sa tb sb scope pos) 0 it (.ref D) env) Z s := by
  refine codeAny_loop rfl I (fun n s hI => ?_) n h
  show wpAny _ A ((compTurn (dc2E dk dv ta sa tb sb scope pos) 0 it (.ref D) env).onRaise (fun x => do noteFrame x env; theTreesLotGoes x)) _ _ s
  refine wpAny_noted ?_
  rw [turnA]
  refine wpAny_bind (wpAny_standAt (wpAny_bind (wpAny_mono (go n s hI) (fun r s1 h1 => ?_) fun _ _ z => z)))
  cases r with
  | none => exact wpAny_pure h1
  | some v =>
    refine wpAny_bind (wpAny_mono h1 (fun _ s2 h2 => ?_) fun _ _ z => z)
    refine wpAny_bind (wpAny_mono h2 (fun _ s3 h3 => wpAny_bind (wpAny_pure ?_)) fun _ _ z => z)
    refine wpAny_bind (wpAny_mono h3 (fun x s4 h4 => ?_) fun _ _ z => z)
    refine wpAny_bind (wpAny_standAt (wpAny_bind (wpAny_of_eq (hs x) (wpAny_bind (wpAny_holding (wpAny_mono h4 (fun jt s5 h5 => ?_) fun _ _ z => z))))))
    refine wpAny_bind (wpAny_runOwn ?_)
    rw [Around.mark_none]
    refine codeAny_mono h5 fun r s' hr => ?_
    cases r with
    | ok f =>
      first
        | exact wpAny_pure ⟨rfl, hr⟩
        | exact wpAny_bind (wpAny_pure (wpAny_pure ⟨rfl, hr⟩))
    | error e => exact hr.elim
theorem loopB (I : Nat → Shared → Prop)
    (go : ∀ n s, I n s → wpAny (model P w) A (pyNext it) (fun r s1 => match r with
      | none => Z (.ok .next) s1
      | some v => wpAny (model P w) A (letOwnedTupleGo tb it v) (fun _ s2 => wpAny (model P w) A (assign tb env v) (fun _ s3 => wpAny (model P w) A (eval dk env) (fun yk s4 => wpAny (model P w) A (eval dv env) (fun yv s5 =>
          wpAny (model P w) A (dictSet D yk yv) (fun _ s6 => ∃ m, m < n ∧ I m s6) (nZ P w A env Z) s5) (nZ P w A env Z) s4) (nZ P w A env Z) s3) (nZ P w A env Z) s2) (nZ P w A env Z) s1) (nZ P w A env Z) s)
    (n : Nat) (h : I n s) : codeAny (model P w) A (.compLoop (dc2E dk dv ta sa tb sb scope pos) 1 it (.ref D) env) Z s := by
  refine codeAny_loop rfl I (fun n s hI => ?_) n h
  show wpAny _ A ((compTurn (dc2E dk dv ta sa tb sb scope pos) 1 it (.ref D) env).onRaise (fun x => do noteFrame x env; theTreesLotGoes x)) _ _ s
  refine wpAny_noted ?_
  rw [turnB]
  refine wpAny_bind (wpAny_standAt (wpAny_bind (wpAny_mono (go n s hI) (fun r s1 h1 => ?_) fun _ _ z => z)))
  cases r with
  | none => exact wpAny_pure h1
  | some v =>
    refine wpAny_bind (wpAny_mono h1 (fun _ s2 h2 => ?_) fun _ _ z => z)
    refine wpAny_bind (wpAny_mono h2 (fun _ s3 h3 => wpAny_bind (wpAny_pure ?_)) fun _ _ z => z)
    exact wpAny_bind (wpAny_bind (wpAny_mono h3 (fun yk s4 h4 => wpAny_bind (wpAny_holding (wpAny_mono h4 (fun yv s5 h5 => wpAny_bind (wpAny_standAt (wpAny_holding (wpAny_mono h5 (fun _ s6 h6 => wpAny_pure ⟨rfl, h6⟩) fun _ _ z => z)))) fun _ _ z => z))) fun _ _ z => z))
theorem startB (h0 : codeAny (model P w) A (.compLoop (dc2E dk dv ta sa tb sb scope pos) 1 it (.ref D) env) Z s)
    (h : wpAny (model P w) A (pyIter it) (fun jt s' => codeAny (model P w) A (.compLoop (dc2E dk dv ta sa tb sb scope pos) 1 jt (.ref D) env) Z s') (nZ P w A env Z) s) :
    codeAny (model P w) A (.compStart (dc2E dk dv ta sa tb sb scope pos) 1 it (.ref D) env) Z s := by
  refine codeAny_of_tree ?_
  show wpAny _ _ ((compStart (dc2E dk dv ta sa tb sb scope pos) 1 it (.ref D) env).onRaise (fun x => do noteFrame x env; standAt theWindowsPlace)) _ _ s
  refine wpAny_notedAt ?_
  unfold compStart
  show wpAny _ _ (ask >>= _) _ _ s
  refine wpAny_bind (wpAny_askSetting (wpAny_ite ?_))
  split
  · first
      | exact wpAny_bind (wpAny_pure (wpAny_pure (And.intro rfl h0)))
      | exact wpAny_pure (And.intro rfl h0)
  · first
      | exact wpAny_bind (wpAny_rule (wpAny_bind (wpAny_standAt (wpAny_bind (wpAny_mono h (fun jt s' z => wpAny_pure (And.intro rfl z)) fun _ _ x => x)))))
      | (refine wpAny_bind (wpAny_rule ?_); show wpAny _ _ (standAt sb.pos >>= _) _ _ s; exact wpAny_bind (wpAny_standAt (wpAny_bind (wpAny_mono h (fun jt s' z => wpAny_pure (And.intro rfl z)) fun _ _ x => x))))
end
end PV

set_option maxHeartbeats 4000000
/-! PV23: {k: v for .. in .. for .. in ..}. -/
namespace PV
open PySem L2
section
variable {X : Cx} {b : Bd} {W : WX}
/-- the items of a value (nobody changes it) -/
def tIv (b : Bd) (W : WX) (x : PV.X) : TI := fun σ H R => ∃ H0 M B ρ, Stt b.g b.T b.ks H0 M B H σ ρ ∧
  match evE b.pg b.C x ρ with
  | .ok d ρ1 => ∃ items, seqOf d = some items ∧ ∀ J H', Kept H H' → Stt b.g b.T b.ks H0 M B H' σ ρ1 → Wk b.g (fun _ => True) H' J items → R J H'
  | .exc c d ρ' => ∀ cls dd H', Kept H H' → Stt b.g b.T b.ks H0 M B H' σ ρ' → ExR b.g b.EC H' c d cls dd → W cls dd σ H'
  | .bad => False
theorem wk_fz {g : Wd} {N : Addr → Prop} {H1 : Hp} {a : Addr} {vs : List V} {ds : List D} (h : FzL g.K H1 a vs) (r : Reps g H1 ds vs) : Wk g N H1 (Itl g.K a) ds := by
  have look : ∀ H, Kept H1 H → SqL g.K H a vs := fun H k => (k.fzL h).sq
  refine ⟨fun i H d k f e => ?_, fun i H k f e => ⟨vs, look H k, by rw [r.length]; exact e⟩⟩
  obtain ⟨v, ev, rv⟩ := r.getD e
  refine ⟨⟨vs, v, look H k, ev⟩, fun x H' y => ?_⟩
  obtain ⟨rfl, y⟩ := y
  have := y vs (look H' k)
  rw [ev] at this
  cases this
  exact ⟨same_refl _, Rep.mono k d rv⟩
theorem pEachV {x : PV.X} {l tg : Expr} (cn : Cn X b W) (ha : PE X l (tR b W false x)) : PI X tg l (tIv b W x) := by
  refine ⟨fun pins s σ H R I h => ?_⟩
  obtain ⟨H0, M, B, ρ, G, h⟩ := h
  cases he : evE b.pg b.C x ρ with
  | bad => rw [he] at h; exact h.elim
  | exc c d ρ' =>
    rw [he] at h
    exact (pi_list ha).run pins s σ H R I ⟨H0, M, B, ρ, G, by rw [he]; exact h⟩
  | ok d ρ1 =>
    rw [he] at h
    obtain ⟨items, hi, h⟩ := h
    cases d with
    | list ds =>
      cases hi
      refine (pi_list ha).run pins s σ H R I ⟨H0, M, B, ρ, G, ?_⟩
      rw [he]
      intro v H1 k1 G1 r1
      have r := r1.old
      rw [Rep] at r
      obtain ⟨a, vs, rfl, fz, rr⟩ := r
      have e : b.g.K = X.K := by rw [cn.g]
      have w := wk_fz (N := fun _ => True) fz rr
      rw [e] at w fz
      exact ⟨a, rfl, ⟨vs, fz.sq⟩, h _ _ k1 G1 w⟩
    | tuple ds =>
      cases hi
      refine (pi_tup ha).run pins s σ H R I ⟨H0, M, B, ρ, G, ?_⟩
      rw [he]
      intro v H1 k1 G1 r1
      have r := r1.old
      rw [Rep] at r
      obtain ⟨a, vs, rfl, sq, rr⟩ := r
      refine ⟨a, rfl, ⟨vs, ?_⟩, ?_⟩
      · rw [cn.g] at sq; exact sq
      · have := h _ _ k1 G1 (wk_tup sq rr)
        rw [cn.g] at this
        exact this
    | _ => cases hi
/-- the reading of the comprehension: D the new dict -/
def tDn2 (X : Cx) (wi : TI) (g : TG) (wj : TI) (gj : TG) (tk tv : TE) (vs us : List Nat) : TE := fun σ H Q => wi σ H fun J H1 => ∀ D, H1 D = none → ∃ Z : Nat → Nat → Hp → Prop, (∃ m, Z 0 m (upd H1 D (.dK []))) ∧ ∀ i m H, Z i m H →
  (J.stop i H ∧ Q (.ref D) H) ∨ (J.go i H ∧ ∃ Nx : Hp → Prop, (∀ H', Nx H' → ∃ m', m' < m ∧ Z (i + 1) m' H') ∧ ∀ x H', J.yld i H x H' → g x (wipe σ vs) H' fun σ2 H2 => wipe σ2 vs = wipe σ vs ∧
    wj σ2 H2 fun J1 H4 => ∃ Y : Nat → Nat → Hp → Prop, (∃ m, Y 0 m H4) ∧ ∀ j k H, Y j k H → (J1.stop j H ∧ Nx H) ∨ (J1.go j H ∧ ∃ Ny : Hp → Prop, (∀ H', Ny H' → ∃ k', k' < k ∧ Y (j + 1) k' H') ∧ ∀ x H', J1.yld j H x H' → gj x (wipe σ2 us) H' fun σ3 H5 => wipe σ3 us = wipe σ2 us ∧
      tk σ3 H5 fun y H6 => tv σ3 H6 fun z H7 => ∃ kvs kd xd, Top (wd X) H7 D (.dict kvs) ∧ Rep (wd X) H7 kd y ∧ Rep (wd X) H7 xd z ∧ keyFits kd kvs = true ∧ kvs.length < sizeLine ∧ ∀ ob, Top (wd X) (upd H7 D ob) D (.dict (dput kd xd kvs)) → Ny (upd H7 D ob)))
end
section
variable {X : Cx} {b : Bd} {W : WX} {kx vx ta sa tb sb : Expr} {scope : Scope} {own : List (Str × Nat)} {pos : Pos} {wi wj : TI} {g gj : TG} {tk tv : TE} {us : List Nat}
theorem pe_dn2 (cn : Cn X b W) (hi : PI X ta sa wi) (ok : BlkOk X.N X.env.scope scope own) (hu : ∀ i ∈ us, i ∈ own.map (·.2))
    (hg : ∀ (s : Shared) (H : Hp) (C : Addr) (cl : List (Str × Addr)) (fp : List Addr), PG (X.blk s H scope (compEnvC scope cl C X.env) fp) ta g)
    (hj : ∀ (s : Shared) (H : Hp) (C : Addr) (cl : List (Str × Addr)) (fp : List Addr), PI (X.blk s H scope (compEnvC scope cl C X.env) fp) tb sb wj)
    (hgj : ∀ (s : Shared) (H : Hp) (C : Addr) (cl : List (Str × Addr)) (fp : List Addr), PG (X.blk s H scope (compEnvC scope cl C X.env) fp) tb gj)
    (hk : ∀ (s : Shared) (H : Hp) (C : Addr) (cl : List (Str × Addr)) (fp : List Addr), PE (X.blk s H scope (compEnvC scope cl C X.env) fp) kx tk)
    (he : ∀ (s : Shared) (H : Hp) (C : Addr) (cl : List (Str × Addr)) (fp : List Addr), PE (X.blk s H scope (compEnvC scope cl C X.env) fp) vx tv) (hs : ∀ x, foldedSetIterable sa X.env x = pure x := by intro _; rfl) (hsb : ∀ env x, foldedSetIterable sb env x = pure x := by intro _ _; rfl) :
    PE X (dc2E kx vx ta sa tb sb scope pos) (tDn2 X wi g wj gj tk tv (own.map (·.2)) us) := by
  constructor
  intro pins s σ H Q I h
  rw [arm_eval_DictComp]
  have captured : ∀ y ∈ scope.names, y.2 = .free → ∃ c, X.env.cells.lookup y.1 = some c := fun y hy e => (ok.free y hy e).elim (fun k => I.ok.has _ (.inl k)) (fun k => I.ok.has _ (.inr k))
  refine PySem.wpAny_comprehension_free (use := none) rfl hs (closure_ok captured) ok.kind (fun y hy e => by rw [ok.uniq y hy, e]) (thn (hi.run pins s σ H _ I h) fun xv s1 hx => thn hx ?_)
  rintro itv s2 ⟨it, fp, tn, J, H2, rfl, I2, T, st2, f2, q⟩
  refine wpAny_newObj_type (newEnv_comp ?_)
  have nD : H2 s2.heap.objs.size = none := I2.hok.fresh (Nat.le_refl _)
  obtain ⟨Z, ⟨m0, z0⟩, turn⟩ := q _ nD
  generalize hD : s2.heap.objs.size = D at nD z0 turn ⊢
  generalize hs3 : ({ s2 with heap := s2.heap.push { cls := .type "dict", data := .dict #[] } } : Shared) = s3
  have p3 : ∀ c o, s2.heap.get? c = some o → s3.heap.get? c = some o := fun c o e => by rw [← hs3]; exact Heap.get?_push_of_some _ e
  have n3 : s2.heap.objs.size < s3.heap.objs.size := by rw [← hs3]; show _ < (Heap.push _ _).objs.size; rw [Heap.size_push]; exact Nat.lt_succ_self _
  have I3 : L2.Inv X pins σ (upd H2 D (.dK [])) s3 := by
    rw [← hs3, ← hD]
    exact I2.laid (t' := s2.toks) (fun c o e => Heap.get?_push_of_some _ e) (Nat.le_refl _) (dk_empty s2.heap I2.big)
  have f3 : ∀ c ∈ fp, FpOk X pins (upd H2 D (.dK [])) c ∧ c < s3.heap.objs.size := fun c hc => by
    obtain ⟨o, e, _⟩ := T.obj _ _ st2 c hc
    have hlt := Heap.lt_size e
    refine ⟨⟨?_, (f2 c hc).2⟩, Nat.lt_trans hlt n3⟩
    rw [upd_ne (fun e => Nat.lt_irrefl _ (by rw [e, ← hD] at hlt; exact hlt))]
    exact (f2 c hc).1
  have st3 : tn 0 s3.heap := T.keep _ _ _ st2 fun c _ o e => p3 c o e
  have I4 := block_start I3 ok cn.nd f3
  generalize hcl : cellsFrom (s3.heap.objs.size + 1) scope.names (cloFrom X.env.cells scope.names []) = cl at I4
  generalize hH3 : upd H2 D (.dK []) = H3 at I3 I4 z0 f3
  have pg := hg s3 H3 s3.heap.objs.size cl fp
  have pj := hj s3 H3 s3.heap.objs.size cl fp
  have pgj := hgj s3 H3 s3.heap.objs.size cl fp
  have pk := hk s3 H3 s3.heap.objs.size cl fp
  have pv := he s3 H3 s3.heap.objs.size cl fp
  have cL : (compEnvC scope cl s3.heap.objs.size X.env).locals = s3.heap.objs.size := rfl
  generalize hce : compEnvC scope cl s3.heap.objs.size X.env = ce at I4 pg pj pgj pk pv cL
  generalize hs4 : ({ s3 with heap := pushCells (s3.heap.push { cls := .type "dict", data := .dict #[] }) scope.names } : Shared) = s4 at I4
  have st4 : tn 0 s4.heap := T.keep _ _ _ st3 fun c _ o e => by rw [← hs4]; exact pushCells_keeps _ _ _ _ (Heap.get?_push_of_some _ e)
  have stand : ∀ {σ' : L2.St} {H' : Hp} {s' : Shared}, L2.Inv (X.blk s3 H3 scope ce fp) [] σ' H' s' → (∀ c ∈ fp, H' c = none) → ∀ c ∈ fp, FpOk (X.blk s3 H3 scope ce fp) [] H' c := fun {σ' H' s'} I' hn c hc =>
    ⟨hn c hc, (I'.ok.exf c hc).1, I'.ok.exfs c hc, .inl hc, fun x a e => (I'.ok.exf c hc).2 x a e, fun p hp => absurd (show p ∈ ([] : List (Addr × Obj)) ++ [] from hp) (by simp)⟩
  have room : (X.blk s3 H3 scope ce fp).A.units + 65 < cLine := cn.u65
  have loop : codeAny (model X.prog X.w) X.A (.compLoop (dc2E kx vx ta sa tb sb scope pos) 0 (.ref it) (.ref D) ce) (compPost (model X.prog X.w) X.A X.xe none (EP X pins σ Q) (.ref D) s3.heap.objs.size) s4 := by
    refine loopA (hsb ce) (fun n s' => ∃ i H', L2.Inv (X.blk s3 H3 scope ce fp) [] (wipe σ (own.map (·.2))) H' s' ∧ tn i s'.heap ∧ (∀ c ∈ fp, H' c = none) ∧ Z i n H') ?_ m0 ⟨0, H3, I4, st4, fun c hc => (f3 c hc).1.1, z0⟩
    rintro n s5 ⟨i, H5, I5, st5, n5, z5⟩
    rcases turn i n H5 z5 with ⟨stop, fin⟩ | ⟨go, Nx, hNx, step⟩
    · refine thnF (T.done (X.blk s3 H3 scope ce fp) rfl rfl rfl cn.calm i [] s5 _ H5 (fun _ _ => False) I5 (stand I5 n5) st5 stop) ?_
      rintro r s6 ⟨rfl, I6⟩
      have I7 : L2.Inv X pins σ H5 s6 := I3.call' (ch := fp) I6.os I6.base I6.hok I6.bare fun c hc => ⟨(f3 c hc).1.2.2.2.1, (f3 c hc).1.2.1, (f3 c hc).1.2.2.2.2.1, (f3 c hc).1.2.2.2.2.2⟩
      have nC : H5 s3.heap.objs.size = none := by
        have z : H5 ce.locals = none := I6.free
        rw [cL] at z
        exact z
      obtain ⟨m, hn, _⟩ := I6.loc
      have hn : s6.heap.Ns ce.locals m := hn
      rw [cL] at hn
      obtain ⟨f0, f1, f4, f5, f6, f7⟩ := I3.fpOk (Nat.le_refl _) nC
      exact ⟨m, hn, fun h' sb => ⟨.ref D, H5, I7.turned (t' := s6.toks) (fun c o hc e => (sb.2 c hc).trans e) f0 f1 f5 f6 f7, rfl, fin⟩⟩
    · refine thnF (T.item (X.blk s3 H3 scope ce fp) rfl rfl rfl cn.calm i [] s5 _ H5 (fun _ _ => False) I5 (stand I5 n5) st5 go) ?_
      rintro r s6 ⟨u, rfl, h6⟩
      refine thnF h6 ?_
      rintro _ s7 ⟨x, H7, I7, r7, y7, st7, n7⟩
      have I7' := I7.pinned (stand I7 n7) (T.obj _ _ st7)
      refine thnF (pg.run _ s7 _ H7 x u _ I7' r7 (step x H7 y7)) ?_
      rintro _ s8 ⟨σ8, H8, I8, hw8, q8⟩
      -- the turn's end
      have next : ∀ {σ9 : L2.St} {s' : Shared} {H' : Hp}, L2.Inv (X.blk s3 H3 scope ce fp) ([] ++ pinsAt fp s7.heap) σ9 H' s' → (wipe σ (own.map (·.2))).length = σ9.length → (∀ (j : Nat) v, (wipe σ (own.map (·.2)))[j]? = some (some v) → σ9[j]? = some (some v)) → Nx H' →
          ∃ m, m < n ∧ ∃ i H', L2.Inv (X.blk s3 H3 scope ce fp) [] (wipe σ (own.map (·.2))) H' s' ∧ tn i s'.heap ∧ (∀ c ∈ fp, H' c = none) ∧ Z i m H' := fun {σ9 s' H'} I' hl hk nx => by
        obtain ⟨m', hm, w'⟩ := hNx H' nx
        have pinned : ∀ c ∈ fp, ∀ o, s7.heap.get? c = some o → s'.heap.get? c = some o ∧ H' c = none := fun c hc o e =>
          have z := I'.pin (c, o) (List.mem_append_right _ (List.mem_append_right _ (mem_pinsAt hc e)))
          ⟨z.1, z.2.1⟩
        refine ⟨m', hm, i + 1, H', (I'.unpinned (pins := [])).weak hl hk, T.keep _ _ _ st7 fun c hc o e => (pinned c hc o e).1, fun c hc => ?_, w'⟩
        obtain ⟨o, e, _⟩ := T.obj _ _ st7 c hc
        exact (pinned c hc o e).2
      have known : ∀ (j : Nat) v, (wipe σ (own.map (·.2)))[j]? = some (some v) → (wipe σ8 us)[j]? = some (some v) := fun j v e => by
        rw [← hw8] at e
        obtain ⟨e1, e2⟩ := wipe_some e
        rw [wipe_out fun z => e2 (hu j z)]
        exact e1
      refine thnF (pj.run _ s8 σ8 H8 _ I8 q8) fun xv s10 hx => thnF hx ?_
      rintro itv1 s11 ⟨it1, fp1, tn1, J1, H11, rfl, I11, T1, st11, f11, Y, ⟨m1, y1⟩, turn1⟩
      have stand1 : ∀ {H' : Hp}, (∀ c ∈ fp1, H' c = none) → ∀ c ∈ fp1, FpOk (X.blk s3 H3 scope ce fp) ([] ++ pinsAt fp s7.heap) H' c := fun hn c hc => ⟨hn c hc, (f11 c hc).2⟩
      have loop1 : codeAny (model X.prog X.w) X.A (.compLoop (dc2E kx vx ta sa tb sb scope pos) 1 (.ref it1) (.ref D) ce)
          (fun r s' => match r with
            | .ok _ => ∃ m, m < n ∧ ∃ i H', L2.Inv (X.blk s3 H3 scope ce fp) [] (wipe σ (own.map (·.2))) H' s' ∧ tn i s'.heap ∧ (∀ c ∈ fp, H' c = none) ∧ Z i m H'
            | .error _ => False) s11 := by
        refine loopB (fun k s' => ∃ j H', L2.Inv (X.blk s3 H3 scope ce fp) ([] ++ pinsAt fp s7.heap) (wipe σ8 us) H' s' ∧ tn1 j s'.heap ∧ (∀ c ∈ fp1, H' c = none) ∧ Y j k H') ?_ m1 ⟨0, H11, I11.weak (wipe_length _ _) (fun j v e => (wipe_some e).1), st11, fun c hc => (f11 c hc).1, y1⟩
        rintro k s12 ⟨j, H12, I12, st12, n12, y12⟩
        rcases turn1 j k H12 y12 with ⟨stop1, nx1⟩ | ⟨go1, Ny, hNy, step1⟩
        · refine thnF (T1.done (X.blk s3 H3 scope ce fp) rfl rfl rfl cn.calm j _ s12 _ H12 (fun _ _ => False) I12 (stand1 n12) st12 stop1) ?_
          rintro r s13 ⟨rfl, I13⟩
          exact next I13 (by rw [wipe_length, wipe_length, ← wipe_length σ8 (own.map (·.2)), hw8, wipe_length]) known nx1
        · refine thnF (T1.item (X.blk s3 H3 scope ce fp) rfl rfl rfl cn.calm j _ s12 _ H12 (fun _ _ => False) I12 (stand1 n12) st12 go1) ?_
          rintro r s13 ⟨u1, rfl, h13⟩
          refine thnF h13 ?_
          rintro _ s14 ⟨x1, H14, I14, r14, y14, st14, n14⟩
          have I14' := I14.pinned (stand1 n14) (T1.obj _ _ st14)
          refine thnF (pgj.run _ s14 _ H14 x1 u1 _ I14' r14 (step1 x1 H14 y14)) ?_
          rintro _ s15 ⟨σ15, H15, I15, hw15, q15⟩
          have next1 : ∀ {s' : Shared} {H' : Hp}, L2.Inv (X.blk s3 H3 scope ce fp) (([] ++ pinsAt fp s7.heap) ++ pinsAt fp1 s14.heap) σ15 H' s' → Ny H' → ∃ m, m < k ∧ ∃ j H', L2.Inv (X.blk s3 H3 scope ce fp) ([] ++ pinsAt fp s7.heap) (wipe σ8 us) H' s' ∧ tn1 j s'.heap ∧ (∀ c ∈ fp1, H' c = none) ∧ Y j m H' := fun {s' H'} I' nx => by
            obtain ⟨m', hm, w'⟩ := hNy H' nx
            have pinned : ∀ c ∈ fp1, ∀ o, s14.heap.get? c = some o → s'.heap.get? c = some o ∧ H' c = none := fun c hc o e =>
              have z := I'.pin (c, o) (List.mem_append_right _ (List.mem_append_right _ (mem_pinsAt hc e)))
              ⟨z.1, z.2.1⟩
            refine ⟨m', hm, j + 1, H', I'.unpinned.weak (by rw [← hw15, wipe_length]) (fun j v e => by rw [← hw15] at e; exact (wipe_some e).1), T1.keep _ _ _ st14 fun c hc o e => (pinned c hc o e).1, fun c hc => ?_, w'⟩
            obtain ⟨o, e, _⟩ := T1.obj _ _ st14 c hc
            exact (pinned c hc o e).2
          refine thnF (pk.run _ s15 σ15 H15 _ I15 q15) ?_
          rintro w1 s16 ⟨yk, H16, I16, r16, q16⟩
          refine thnF (pv.run _ s16 σ15 H16 _ I16 q16) ?_
          rintro w2 s17 ⟨yv, H17, I17, r17, kvs, kd, xd, tp, rk, rx, hf, hz, nx⟩
          exact dset_put (X := X.blk s3 H3 scope ce fp) room I17 tp rk rx hf hz r16 r17 fun ob s18 t2 I18 => next1 I18 (nx ob t2)
      exact startB loop1 (T1.self X.A 0 _ _ _ st11 loop1)
  subst hce
  exact codeAny_compStart_dict loop (T.self X.A 0 _ _ _ st4 loop)
end
end PV

set_option maxHeartbeats 4000000
/-! PV24: two clauses: what the evaluator says is what the machine does. -/
namespace PV
open PySem L2
theorem wipe_sub {σ : L2.St} {us vs : List Nat} (h : ∀ i ∈ us, i ∈ vs) : wipe (wipe σ us) vs = wipe σ vs := by
  apply List.ext_getElem?
  intro j
  rw [wipe_get, wipe_get, wipe_get, wipe_length]
  by_cases c : j ∈ vs ∧ j < σ.length
  · rw [if_pos c, if_pos c]
  · rw [if_neg c, if_neg c]
    by_cases d : j ∈ us ∧ j < σ.length
    · exact absurd ⟨h j d.1, d.2⟩ c
    · rw [if_neg d]
theorem wipeR_if {ρ : Rho} : ∀ {vs : List Nat} {j : Nat}, (wipeR ρ vs)[j]? = if j ∈ vs ∧ j < ρ.length then some none else ρ[j]?
  | [], j => by simp [wipeR]
  | v :: vs, j => by
    show ((wipeR ρ vs).set v none)[j]? = _
    by_cases e : v = j
    · subst e
      by_cases hl : v < ρ.length
      · rw [List.getElem?_set_self (by rw [wipeR_len]; exact hl)]
        simp [hl]
      · rw [List.getElem?_eq_none (by rw [List.length_set, wipeR_len]; omega), List.getElem?_eq_none (l := ρ) (by omega)]
        simp [hl]
    · rw [List.getElem?_set_ne e, wipeR_if]
      have : (j ∈ v :: vs ∧ j < ρ.length) ↔ (j ∈ vs ∧ j < ρ.length) := by
        rw [List.mem_cons]
        constructor
        · rintro ⟨h | h, h2⟩
          · exact absurd h.symm e
          · exact ⟨h, h2⟩
        · rintro ⟨h, h2⟩
          exact ⟨.inr h, h2⟩
      simp only [this]
theorem wipeR_sub {ρ : Rho} {us vs : List Nat} (h : ∀ i ∈ us, i ∈ vs) : wipeR (wipeR ρ us) vs = wipeR ρ vs := by
  apply List.ext_getElem?
  intro j
  rw [wipeR_if, wipeR_if, wipeR_if, wipeR_len]
  by_cases c : j ∈ vs ∧ j < ρ.length
  · rw [if_pos c, if_pos c]
  · rw [if_neg c, if_neg c]
    by_cases d : j ∈ us ∧ j < ρ.length
    · exact absurd ⟨h j d.1, d.2⟩ c
    · rw [if_neg d]
section
variable {X : Cx} {b : Bd} {W : WX}
theorem dn2_tm {y z x2 : PV.X} {tg tg2 : Tg} {sk : Sk} {xs : List PV.X} {vs us : List Nat} {σ : L2.St} {H : Hp} {Q : VK} (gX : b.g = wd X) (hsub : ∀ i ∈ tgSl tg, i ∈ vs) (hsub2 : ∀ i ∈ tgSl tg2, i ∈ us) (huv : ∀ i ∈ us, i ∈ vs) (hval : ∀ i ∈ vs, b.ks[i]? = some .val ∧ i < σ.length) (hl : ∀ i, lentOf xs = some i → isOwn b.ks[i]? = true)
    (q : tR b W true (.dc2 y z tg sk xs tg2 x2 vs us) σ H Q) : tDn2 X (tI b W sk xs) (gTg X.K tg) (tIv b WF x2) (gTg X.K tg2) (tR b WF false y) (tR b WF false z) vs us σ H Q := by
  obtain ⟨H0, M, B, ρ, G, q⟩ := q
  rw [evE] at q
  refine ⟨H0, M, B, ρ, G, ?_⟩
  cases he : evOs b.pg b.C xs ρ with
  | bad => rw [he] at q; exact q
  | exc c d ρ' => rw [he] at q; exact q
  | ok os ρ1 =>
    rw [he] at q
    simp only [bind_ok] at q
    cases hs : see ρ1 os with
    | none => simp only [hs] at q; exact q.elim
    | some ds0 =>
      cases hi : srcOf sk ds0 with
      | none => simp only [hs, hi] at q; exact q.elim
      | some items =>
        simp only [hs, hi] at q
        generalize hfe : (fun r => (evE b.pg b.C y r).bind fun x r1 => (evE b.pg b.C z r1).bind fun y r2 => R.ok (PyData.tuple [x, y]) r2) = fe at q
        generalize hfs : (fun r => (evE b.pg b.C x2 r).bind fun d r1 => match seqOf d with | some l => R.ok l r1 | none => R.bad) = fs at q
        cases hc : compL2 fe fs tg tg2 vs us items (hide ρ1 (lentOf xs)) with
        | bad => simp only [hc] at q; exact q.elim
        | exc c d ρ' => simp only [hc] at q; exact q.elim
        | ok XS RE =>
          simp only [hc] at q
          cases hf : dictOf XS [] with
          | none => simp only [hf] at q; exact q.elim
          | some KV =>
            simp only [hf] at q
            refine ⟨ds0, items, hs, hi, fun J H1 k1 G1 wk D hD => ?_⟩
            generalize hN : OwnAt b.ks σ (hide ρ1 (lentOf xs)) = N at wk
            generalize hB1 : B.put b.ks σ ρ1 (hide ρ1 (lentOf xs)) = B1
            have Gr : Stt b.g b.T b.ks H1 N B1 H1 σ (hide ρ1 (lentOf xs)) := by
              rw [← hN, ← hB1]
              exact G1.rebase hide_len fun i d h => (hide_none h).1
            have nD1 : ¬ B1 D := by
              rw [← hB1]
              rintro (z1 | ⟨z1, _⟩)
              · exact G1.nb_new hD z1
              · exact noOwn_new G1 hD z1
            refine ⟨fun i m H2 => m = items.length - i ∧ i ≤ items.length ∧ ∃ ρc kvs, Kept H1 H2 ∧ Stt b.g b.T b.ks H1 N B1 H2 (wipe σ vs) (wipeR ρc vs) ∧ Top (wd X) H2 D (.dict kvs) ∧ ¬ OwnAt b.ks (wipe σ vs) (wipeR ρc vs) D ∧
              ∃ xs', compL2 fe fs tg tg2 vs us (items.drop i) ρc = .ok xs' RE ∧ dictOf xs' kvs = some KV, ⟨items.length, by simp, Nat.zero_le _, hide ρ1 (lentOf xs), [], Kept.new hD, (Gr.same (same_new hD)).wipe vs, ⟨_, [], upd_same, .inl ⟨[], rfl, rfl⟩, by rw [RepKs]⟩, fun ⟨i, d, h1, h2, h3⟩ => ?_, XS, hc, hf⟩, ?_⟩
            · rw [wipe_get] at h3
              split at h3
              · cases h3
              · exact noOwn_new Gr hD ⟨i, d, (wipeR_get h1).1, h2, h3⟩
            rintro i m H2 ⟨rfl, hle, ρc, kvs, k2, G2, tD, nO, xs', hcl, htot⟩
            have fr : ∀ a o, H1 a = some o → ¬ N a → (∀ ps, o ≠ .tbl ps) → H2 a = some o := G2.frame
            by_cases hlt : i < items.length
            · have hd : items[i]? = some items[i] := List.getElem?_eq_getElem hlt
              obtain ⟨go, yl⟩ := wk.go i H2 _ k2 fr hd
              refine .inr ⟨go, fun H3 => ∃ ρc kvs, Kept H1 H3 ∧ Stt b.g b.T b.ks H1 N B1 H3 (wipe σ vs) (wipeR ρc vs) ∧ Top (wd X) H3 D (.dict kvs) ∧ ¬ OwnAt b.ks (wipe σ vs) (wipeR ρc vs) D ∧
                ∃ xs', compL2 fe fs tg tg2 vs us (items.drop (i + 1)) ρc = .ok xs' RE ∧ dictOf xs' kvs = some KV, fun H3 h3 => ⟨items.length - (i + 1), by omega, rfl, hlt, h3⟩, fun x H3 hy => ?_⟩
              obtain ⟨s3, rx⟩ := yl x H3 hy
              have k3 := Kept.of_same s3
              have G3 := G2.same s3
              have tD3 : Top (wd X) H3 D (.dict kvs) := tD.mono k3 (by obtain ⟨u, ks, e, _⟩ := tD; rw [s3 _ _ e, e])
              have GL := G3.lend (p := D) (by obtain ⟨u, ks, e, _⟩ := tD3; rw [e]; exact fun z => nomatch z) nO
              rw [List.drop_eq_getElem_cons hlt] at hcl
              unfold compL2 at hcl
              cases ht : setTg tg items[i] (wipeR ρc vs) with
              | none => simp only [ht] at hcl; cases hcl
              | some ρt =>
                simp only [ht] at hcl
                rw [show X.K = b.g.K by rw [gX]]
                refine tg_ok (fun j hj => ?_) GL rx ht fun σ2 G4 b4 => ?_
                · obtain ⟨a1, a2⟩ := hval j (hsub j hj)
                  exact ⟨a1, by rw [wipe_length]; exact a2⟩
                have ew : wipe σ2 vs = wipe σ vs := by rw [wipe_but b4 hsub, wipe_wipe]
                have el : σ2.length = σ.length := by rw [← wipe_length σ2 vs, ew, wipe_length]
                refine ⟨ew, _, _, _, ρt, G4, ?_⟩
                have hfs' : fs ρt = (evE b.pg b.C x2 ρt).bind fun d r1 => match seqOf d with | some l => R.ok l r1 | none => R.bad := by rw [← hfs]
                rw [hfs'] at hcl
                cases h5 : evE b.pg b.C x2 ρt with
                | bad => rw [h5] at hcl; cases hcl
                | exc c d ρ' => rw [h5] at hcl; cases hcl
                | ok d2 ρ2 =>
                  rw [h5] at hcl
                  simp only [bind_ok] at hcl
                  cases h6 : seqOf d2 with
                  | none => simp only [h6] at hcl; cases hcl
                  | some its =>
                    simp only [h6, bind_ok] at hcl
                    cases h7 : compL fe (fun r => R.ok true r) tg2 us its ρ2 with
                    | bad => rw [h7] at hcl; cases hcl
                    | exc c d ρ' => rw [h7] at hcl; cases hcl
                    | ok xs2 RE2 =>
                      rw [h7] at hcl
                      simp only [bind_ok] at hcl
                      cases h8 : compL2 fe fs tg tg2 vs us (items.drop (i + 1)) RE2 with
                      | bad => rw [h8] at hcl; cases hcl
                      | exc c d ρ' => rw [h8] at hcl; cases hcl
                      | ok ys ρ4 =>
                        rw [h8] at hcl
                        cases hcl
                        refine ⟨its, h6, fun J1 H4 k4 G5 wk1 => ?_⟩
                        -- D is one's own again
                        have fin : ∀ {ρ5 : Rho} {H6 : Hp}, Kept H3 H6 → Stt b.g b.T b.ks H3 (OwnAt b.ks (wipe σ vs) (wipeR ρc vs)) (B1.add D) H6 σ2 ρ5 → Top (wd X) H6 D (.dict kvs) ∧ Stt b.g b.T b.ks H1 N B1 H6 σ2 ρ5 ∧ ¬ OwnAt b.ks σ2 ρ5 D := fun {ρ5 H6} k6 G6 => by
                          obtain ⟨a1, a2⟩ := G3.unlend G6 k6
                          exact ⟨tD3.stay k6 (fun o z => G6.frame D o z nO fun ps e => tD3.code.2 ps (by rw [z, e])), a1, a2⟩
                        obtain ⟨a1, a2, a3⟩ := fin k4 G5
                        have k14 : Kept H1 H4 := k2.trans (k3.trans k4)
                        refine ⟨fun j k H6 => k = its.length - j ∧ j ≤ its.length ∧ ∃ ρd kv2, Kept H4 H6 ∧ Stt b.g b.T b.ks H1 N B1 H6 (wipe σ2 us) (wipeR ρd us) ∧ Top (wd X) H6 D (.dict kv2) ∧ ¬ OwnAt b.ks (wipe σ2 us) (wipeR ρd us) D ∧
                          ∃ zs, compL fe (fun r => R.ok true r) tg2 us (its.drop j) ρd = .ok zs RE2 ∧ dictOf (zs ++ ys) kv2 = some KV, ⟨its.length, by simp, Nat.zero_le _, ρ2, kvs, Kept.refl _, a2.wipe us, a1, fun ⟨i, d, h1, h2, h3⟩ => ?_, xs2, h7, htot⟩, ?_⟩
                        · rw [wipe_get] at h3
                          split at h3
                          · cases h3
                          · exact a3 ⟨i, d, (wipeR_get h1).1, h2, h3⟩
                        rintro j k H6 ⟨rfl, hle2, ρd, kv2, k6, G6, tE, nE, zs, hcl2, htot2⟩
                        by_cases hlt2 : j < its.length
                        · obtain ⟨go1, yl1⟩ := wk1.go j H6 _ k6 (fun a o _ h _ => absurd True.intro h) (List.getElem?_eq_getElem hlt2)
                          refine .inr ⟨go1, fun H7 => ∃ ρd kv2, Kept H4 H7 ∧ Stt b.g b.T b.ks H1 N B1 H7 (wipe σ2 us) (wipeR ρd us) ∧ Top (wd X) H7 D (.dict kv2) ∧ ¬ OwnAt b.ks (wipe σ2 us) (wipeR ρd us) D ∧
                            ∃ zs, compL fe (fun r => R.ok true r) tg2 us (its.drop (j + 1)) ρd = .ok zs RE2 ∧ dictOf (zs ++ ys) kv2 = some KV, fun H7 h7 => ⟨its.length - (j + 1), by omega, rfl, hlt2, h7⟩, fun x1 H7 hy1 => ?_⟩
                          obtain ⟨s7, rx1⟩ := yl1 x1 H7 hy1
                          have k7 := Kept.of_same s7
                          have G7 := G6.same s7
                          have tE7 : Top (wd X) H7 D (.dict kv2) := tE.mono k7 (by obtain ⟨u, ks, e, _⟩ := tE; rw [s7 _ _ e, e])
                          have GL1 := G7.lend (p := D) (by obtain ⟨u, ks, e, _⟩ := tE7; rw [e]; exact fun z => nomatch z) nE
                          rw [List.drop_eq_getElem_cons hlt2] at hcl2
                          unfold compL at hcl2
                          cases ht2 : setTg tg2 its[j] (wipeR ρd us) with
                          | none => simp only [ht2] at hcl2; cases hcl2
                          | some ρe =>
                            simp only [ht2, bind_ok, if_true] at hcl2
                            refine tg_ok (fun l hl2 => ?_) GL1 rx1 ht2 fun σ3 G8 b8 => ?_
                            · obtain ⟨c1, c2⟩ := hval l (huv l (hsub2 l hl2))
                              exact ⟨c1, by rw [wipe_length, el]; exact c2⟩
                            have ew2 : wipe σ3 us = wipe σ2 us := by rw [wipe_but b8 hsub2, wipe_wipe]
                            refine ⟨ew2, _, _, _, ρe, G8, ?_⟩
                            have fin1 : ∀ {ρ5 : Rho} {H8 : Hp}, Kept H7 H8 → Stt b.g b.T b.ks H7 (OwnAt b.ks (wipe σ2 us) (wipeR ρd us)) (B1.add D) H8 σ3 ρ5 → Top (wd X) H8 D (.dict kv2) ∧ Stt b.g b.T b.ks H1 N B1 H8 σ3 ρ5 ∧ ¬ OwnAt b.ks σ3 ρ5 D := fun {ρ5 H8} k8 G9 => by
                              obtain ⟨b1, b2⟩ := G7.unlend G9 k8
                              exact ⟨tE7.stay k8 (fun o z => G9.frame D o z nE fun ps e => tE7.code.2 ps (by rw [z, e])), b1, b2⟩
                            have wiped : ∀ {ρ5 : Rho}, ¬ OwnAt b.ks σ3 ρ5 D → ¬ OwnAt b.ks (wipe σ2 us) (wipeR ρ5 us) D := fun {ρ5} n ⟨l, w, h1, h2, h3⟩ => by
                              rw [← ew2, wipe_get] at h3
                              split at h3
                              · cases h3
                              · exact n ⟨l, w, (wipeR_get h1).1, h2, h3⟩
                            have hfe' : fe ρe = (evE b.pg b.C y ρe).bind fun x r1 => (evE b.pg b.C z r1).bind fun y r2 => R.ok (PyData.tuple [x, y]) r2 := by rw [← hfe]
                            rw [hfe'] at hcl2
                            cases h9 : evE b.pg b.C y ρe with
                            | bad => rw [h9] at hcl2; cases hcl2
                            | exc c d ρ' => rw [h9] at hcl2; cases hcl2
                            | ok kd ρ3 =>
                              rw [h9] at hcl2
                              intro yv H8 k8 G9 ry
                              refine ⟨_, _, _, ρ3, G9, ?_⟩
                              simp only [bind_ok] at hcl2
                              cases h10 : evE b.pg b.C z ρ3 with
                              | bad => rw [h10] at hcl2; cases hcl2
                              | exc c d ρ' => rw [h10] at hcl2; cases hcl2
                              | ok xd ρ5 =>
                                rw [h10] at hcl2
                                simp only [bind_ok] at hcl2
                                intro zv H9 k9 G10 rz
                                obtain ⟨b1, b2, b3⟩ := fin1 (k8.trans k9) G10
                                cases h11 : compL fe (fun r => R.ok true r) tg2 us (its.drop (j + 1)) ρ5 with
                                | bad => rw [h11] at hcl2; cases hcl2
                                | exc c d ρ' => rw [h11] at hcl2; cases hcl2
                                | ok zs2 ρ6 =>
                                  rw [h11] at hcl2
                                  cases hcl2
                                  rw [List.cons_append] at htot2
                                  unfold dictOf at htot2
                                  by_cases hq : (keyFits kd kv2 && decide (kv2.length < sizeLine)) = true
                                  · rw [if_pos hq] at htot2
                                    rw [Bool.and_eq_true, decide_eq_true_eq] at hq
                                    have ek : Rep (wd X) H9 kd yv := by rw [← gX]; exact Rep.mono k9 _ ry.old
                                    have ez : Rep (wd X) H9 xd zv := by rw [← gX]; exact rz.old
                                    refine ⟨kv2, kd, xd, b1, ek, ez, hq.1, hq.2, fun ob tn => ⟨ρ5, dput kd xd kv2, ?_, ?_, tn, wiped b3, zs2, h11, htot2⟩⟩
                                    · exact (k6.trans (k7.trans (k8.trans k9))).trans (Kept.put b1.mut)
                                    · have a4 := (b2.put (o := ob) b1.mut b3 nD1 (.inr hD) b1.code).wipe us
                                      rw [ew2] at a4
                                      exact a4
                                  · rw [if_neg hq] at htot2; cases htot2
                        · have ej : j = its.length := by omega
                          refine .inl ⟨wk1.stop j H6 k6 (fun a o _ h _ => absurd True.intro h) (by omega), ?_⟩
                          rw [ej, List.drop_length] at hcl2
                          unfold compL at hcl2
                          cases hcl2
                          have htot2 : dictOf ys kv2 = some KV := htot2
                          have G7 := G6.wipe vs
                          rw [wipe_sub huv, wipeR_sub huv, ew] at G7
                          refine ⟨RE2, kv2, k14.trans k6, G7, tE, fun ⟨l, w, h1, h2, h3⟩ => ?_, ys, h8, htot2⟩
                          rw [← ew, wipe_get] at h3
                          split at h3
                          · cases h3
                          · rename_i hn
                            obtain ⟨g1, g2⟩ := wipeR_get h1
                            have nu : ¬ (l ∈ us ∧ l < σ2.length) := fun z => g2 (huv l z.1)
                            refine nE ⟨l, w, ?_, h2, ?_⟩
                            · rw [wipeR_if, if_neg fun z => g2 (huv l z.1)]; exact g1
                            · rw [wipe_get, if_neg nu]; exact h3
            · have ei : i = items.length := by omega
              refine .inl ⟨wk.stop i H2 k2 fr (by omega), ?_⟩
              rw [ei, List.drop_length] at hcl
              unfold compL2 at hcl
              cases hcl
              have htot : some kvs = some KV := htot
              cases htot
              have hk : ∀ j ∈ vs, b.ks[j]? = some .val := fun j hj => (hval j hj).1
              have nv : ∀ {j : Nat}, isOwn b.ks[j]? = true → j ∉ vs := fun {j} h1 h3 => by rw [hk j h3] at h1; cases h1
              rw [← hN, ← hB1] at G2
              have lenE : (wipeR RE vs).length = σ.length := by rw [G2.len, wipe_length]
              have G3 : Stt b.g b.T b.ks H0 M B H2 (wipe σ vs) (unhide ρ1 (lentOf xs) (wipeR RE vs)) := by
                refine G1.unbase (ρ₁ := hide ρ1 (lentOf xs)) (fun j d h => (hide_none h).1) G2 k2 unhide_len fun j d h => ?_
                rcases unhide_get h with ⟨h1, h2⟩ | ⟨h1, h2⟩
                · exact .inl h2
                · have ho := hl j h1
                  refine .inr ⟨h2, ho, by rw [h1]; exact hide_at h2, ?_⟩
                  rw [wipe_get, if_neg (fun z => nv ho z.1)]
              have out : ∀ {us : List Nat} {j : Nat}, j ∉ us → (wipeR RE us)[j]? = RE[j]? := fun {us j} hu => by rw [wipeR_if, if_neg fun z => hu z.1]
              have G4 : Stt b.g b.T b.ks H0 M B H2 σ (unhide ρ1 (lentOf xs) (backR ρ1 RE vs)) := by
                have lc : RE.length = σ.length := by rw [← lenE, wipeR_len]
                refine G1.back k2 hk G3 (by rw [unhide_len, backR_len]; exact lc) fun j d h => ?_
                rcases unhide_get h with ⟨h1, h2⟩ | ⟨h1, h2⟩
                · rcases backR_get h2 with ⟨h3, h4⟩ | ⟨h3, h4⟩
                  · refine .inl ⟨h3, ?_⟩
                    have : (wipeR RE vs)[j]? = some (some d) := by rw [out h3]; exact h4
                    cases hlx : lentOf xs with
                    | none => exact this
                    | some u =>
                      rw [hlx] at h1
                      show ((wipeR RE vs).set u _)[j]? = _
                      rw [List.getElem?_set_ne (fun e => h1 (congrArg some e))]
                      exact this
                  · exact .inr ⟨h3, h4⟩
                · have ho := hl j h1
                  refine .inl ⟨nv ho, ?_⟩
                  rw [h1]
                  show ((wipeR RE vs).set j _)[j]? = _
                  have hj : j < (wipeR RE vs).length := by
                    rw [lenE, ← G1.len]
                    exact (List.getElem?_eq_some_iff.mp h2).1
                  rw [List.getElem?_set_self hj, h2]
                  rfl
              refine q _ H2 (k1.trans k2) G4 ?_
              unfold RR
              refine ⟨D, rfl, ⟨(NF.of_none hD).pre k1, fun ⟨j, d, h1, h2, h3⟩ => ?_, G1.nb_new hD, G1.new0 hD⟩, by rw [gX]; exact tD⟩
              rcases unhide_get h1 with ⟨h4, h5⟩ | ⟨h4, h5⟩
              · rcases backR_get h5 with ⟨h6, h7⟩ | ⟨h6, h7⟩
                · exact nO ⟨j, d, by rw [out h6]; exact h7, h2, by rw [wipe_get, if_neg (fun z => h6 z.1)]; exact h3⟩
                · exact nv h2 h6
              · exact noOwn_new G1 hD ⟨j, d, h5, h2, h3⟩
end
section
variable {X : Cx} {b : Bd} {W : WX} {y z x2 : PV.X} {tg tg2 : Tg} {sk : Sk} {xs : List PV.X} {vs us : List Nat} {kx elt ta sa tb sb : Expr} {scope : Scope} {own : List (Str × Nat)} {pos : Pos}
def lcOk2 (ks : List Kd) (xs : List PV.X) (tg tg2 : Tg) (vs us : List Nat) (n : Nat) : Bool := lcOk ks xs tg vs n && (tgSl tg2).all (fun i => us.contains i) && us.all (fun i => vs.contains i)
theorem eDc2 (cn : Cn X b W) (hi : PI X ta sa (tI b W sk xs)) (ok : BlkOk X.N X.env.scope scope own) (hv : own.map (·.2) = vs) (lk : lcOk2 b.ks xs tg tg2 vs us X.N.length = true)
    (hg : ∀ (s : Shared) (H : Hp) (C : Addr) (cl : List (Str × Addr)) (fp : List Addr), PG (X.blk s H scope (compEnvC scope cl C X.env) fp) ta (gTg X.K tg))
    (hj : ∀ (s : Shared) (H : Hp) (C : Addr) (cl : List (Str × Addr)) (fp : List Addr), Cn (X.blk s H scope (compEnvC scope cl C X.env) fp) b WF → PE (X.blk s H scope (compEnvC scope cl C X.env) fp) sb (tR b WF false x2))
    (hgj : ∀ (s : Shared) (H : Hp) (C : Addr) (cl : List (Str × Addr)) (fp : List Addr), PG (X.blk s H scope (compEnvC scope cl C X.env) fp) tb (gTg X.K tg2))
    (hk : ∀ (s : Shared) (H : Hp) (C : Addr) (cl : List (Str × Addr)) (fp : List Addr), Cn (X.blk s H scope (compEnvC scope cl C X.env) fp) b WF → PE (X.blk s H scope (compEnvC scope cl C X.env) fp) kx (tR b WF false y))
    (he : ∀ (s : Shared) (H : Hp) (C : Addr) (cl : List (Str × Addr)) (fp : List Addr), Cn (X.blk s H scope (compEnvC scope cl C X.env) fp) b WF → PE (X.blk s H scope (compEnvC scope cl C X.env) fp) elt (tR b WF false z))
    (hs : ∀ x, foldedSetIterable sa X.env x = pure x := by intro _; rfl) (hsb : ∀ env x, foldedSetIterable sb env x = pure x := by intro _ _; rfl) : PE X (.DictComp kx elt [⟨ta, sa, [], 0⟩, ⟨tb, sb, [], 0⟩] scope pos) (tR b W true (.dc2 y z tg sk xs tg2 x2 vs us)) := by
  unfold lcOk2 at lk
  rw [Bool.and_eq_true, Bool.and_eq_true, List.all_eq_true, List.all_eq_true] at lk
  obtain ⟨⟨l1, l2⟩, l3⟩ := lk
  obtain ⟨h1, h2, h3⟩ := lcOk_by l1
  have l2 : ∀ i ∈ tgSl tg2, i ∈ us := fun i hi => by simpa using l2 i hi
  have l3 : ∀ i ∈ us, i ∈ vs := fun i hi => by simpa using l3 i hi
  refine PV.PE.len (pe_dn2 (us := us) cn hi ok (by rw [hv]; exact l3) hg (fun s H C cl fp => pEachV (cn.blk s H scope _ fp) (hj s H C cl fp (cn.blk s H scope _ fp))) hgj (fun s H C cl fp => hk s H C cl fp (cn.blk s H scope _ fp)) (fun s H C cl fp => he s H C cl fp (cn.blk s H scope _ fp)) hs hsb) fun σ H Q hl q => ?_
  rw [hv]
  exact dn2_tm (by rw [cn.g]) h1 l2 l3 (fun i hi => by rw [hl]; exact h2 i hi) h3 q
end
end PV

set_option maxHeartbeats 4000000
/-! PV25: l[::-1]; a result that reads one's own list as a value. -/
namespace PV
open PySem L2
theorem Reps.rev {g : Wd} {H : Hp} : ∀ {ds : List D} {vs : List V}, Reps g H ds vs → Reps g H ds.reverse vs.reverse
  | [], vs, r => by
    rw [Reps] at r
    subst r
    exact .nil
  | d :: ds, vs, r => by
    rw [Reps] at r
    obtain ⟨v, t, rfl, r1, r2⟩ := r
    rw [List.reverse_cons, List.reverse_cons]
    exact (Reps.rev r2).append (.cons r1 .nil)
section
variable {X : Cx} {b : Bd} {W : WX} {ws : List Nat} {e : Expr} {x : PV.X} {i : Nat} {pos : Pos}
theorem eRev {k : Nat} {p1 p2 p3 : Pos} (cn : Cn X b W) (ha : PE X e (tO b W x)) : PE X (.Subscript e (.Slice none none (some (.UnaryOp .USub (.Constant (.int 1) k p1) p2)) p3) pos) (tR b W true (.op .rev1 [x])) := by
  refine PV.PE.imp (pe_revL ha) (op_R fun σ H Q q => ?_)
  refine imp_O (ops1 q) fun v H1 r => ?_
  obtain ⟨ds, z, hb, hp, k⟩ := r
  obtain ⟨d, rfl, h1⟩ := hb.one
  cases d <;> try (exact noCase (show (none : Option D) = some z from hp))
  rename_i es
  have hz : PyData.list es.reverse = z := Option.some.inj hp
  subst hz
  obtain ⟨a, vs, rfl, s1, r1⟩ := h1.lst
  refine ⟨a, vs, rfl, ?_, fun p hp2 => k _ _ (same_new hp2) (.lst rfl hp2 (Reps.rev r1))⟩
  have := s1.sq
  rw [cn.g] at this
  exact this
/-- slot i as a value from now on -/
def Bd.zap (b : Bd) (i : Nat) : Bd := { b with ks := b.ks.set i .val }
theorem Cn.zap (cn : Cn X b W) (i : Nat) : Cn X (b.zap i) W := ⟨cn.g, cn.calm, cn.nd, cn.hr, cn.gd, cn.pass, cn.tk, cn.fc⟩
end
section
variable {g : Wd} {T : List (Addr × Str)} {ks : List Kd} {H0 H H' : Hp} {M : Addr → Prop} {B : Lent} {σ : L2.St} {ρ : Rho}
theorem Stt.asVal {i : Nat} {d : D} {v : V} (G : Stt g T ks H0 M B H σ (ρ.set i none)) (hi : i < ks.length) (e : ρ[i]? = some (some d)) (es : σ[i]? = some (some v)) (r : Rep g H d v) : Stt g T (ks.set i .val) H0 M B H σ ρ := by
  have kne : ∀ {j : Nat}, i ≠ j → (ks.set i Kd.val)[j]? = ks[j]? := fun h => List.getElem?_set_ne h
  have ksm : (ks.set i Kd.val)[i]? = some .val := List.getElem?_set_self hi
  have rne : ∀ {j : Nat}, i ≠ j → (ρ.set i none)[j]? = ρ[j]? := fun h => List.getElem?_set_ne h
  refine ⟨by have := G.len; rwa [List.length_set] at this, G.frame, fun j d' h1 h2 => ?_, fun j d' h1 h2 => ?_, fun j d' h1 h2 => ?_, fun j l d1 d2 p hne h1 h2 h3 h4 h5 => ?_, fun j d' h => ?_, G.bh, G.bsl, G.tabs, G.frT⟩
  · by_cases q : i = j
    · subst q
      rw [e] at h1
      cases h1
      exact ⟨v, es, r⟩
    · exact G.val j d' (by rw [rne q]; exact h1) (by rw [← kne q]; exact h2)
  · by_cases q : i = j
    · subst q
      rw [ksm] at h2
      cases h2
    · exact G.bor j d' (by rw [rne q]; exact h1) (by rw [← kne q]; exact h2)
  · by_cases q : i = j
    · subst q
      rw [ksm] at h2
      cases h2
    · exact G.own j d' (by rw [rne q]; exact h1) (by rw [← kne q]; exact h2)
  · by_cases q : i = j
    · subst q
      rw [ksm] at h3
      cases h3
    · by_cases q2 : i = l
      · subst q2
        rw [ksm] at h4
        cases h4
      · exact G.apart j l d1 d2 p hne (by rw [rne q]; exact h1) (by rw [rne q2]; exact h2) (by rw [← kne q]; exact h3) (by rw [← kne q2]; exact h4) h5
  · by_cases q : i = j
    · subst q
      exact ⟨.val, ksm⟩
    · obtain ⟨k, hk⟩ := G.kinds j d' (by rw [rne q]; exact h)
      exact ⟨k, by rw [kne q]; exact hk⟩
theorem Stt.unVal {i : Nat} (G : Stt g T (ks.set i .val) H0 M B H σ ρ) : Stt g T ks H0 M B H σ (ρ.set i none) := by
  have kne : ∀ {j : Nat}, i ≠ j → (ks.set i Kd.val)[j]? = ks[j]? := fun h => List.getElem?_set_ne h
  have at' : ∀ {j : Nat} {d : D}, (ρ.set i none)[j]? = some (some d) → i ≠ j ∧ ρ[j]? = some (some d) := fun {j d} h => by
    by_cases q : i = j
    · subst q
      by_cases hl : i < ρ.length
      · rw [List.getElem?_set_self hl] at h; cases h
      · rw [List.getElem?_eq_none (by rw [List.length_set]; omega)] at h; cases h
    · rw [List.getElem?_set_ne q] at h
      exact ⟨q, h⟩
  refine ⟨by rw [List.length_set]; exact G.len, G.frame, fun j d' h1 h2 => ?_, fun j d' h1 h2 => ?_, fun j d' h1 h2 => ?_, fun j l d1 d2 p hne h1 h2 h3 h4 h5 => ?_, fun j d' h => ?_, G.bh, G.bsl, G.tabs, G.frT⟩
  · obtain ⟨q, h1⟩ := at' h1
    exact G.val j d' h1 (by rw [kne q]; exact h2)
  · obtain ⟨q, h1⟩ := at' h1
    exact G.bor j d' h1 (by rw [kne q]; exact h2)
  · obtain ⟨q, h1⟩ := at' h1
    exact G.own j d' h1 (by rw [kne q]; exact h2)
  · obtain ⟨q, h1⟩ := at' h1
    obtain ⟨q2, h2⟩ := at' h2
    exact G.apart j l d1 d2 p hne h1 h2 (by rw [kne q]; exact h3) (by rw [kne q2]; exact h4) h5
  · obtain ⟨q, h1⟩ := at' h
    obtain ⟨k, hk⟩ := G.kinds j d' h1
    exact ⟨k, by rw [← kne q]; exact hk⟩
end
section
variable {X : Cx} {b : Bd} {W : WX} {ws : List Nat} {e : Expr} {x : PV.X} {i : Nat} {pos : Pos}
theorem sRetZ (cn : Cn X b W) (hf : b.fr = false) (hk : b.ks[i]? = some .own) (he : Cn X (b.zap i) W → PE X e (tR (b.zap i) W false x)) : PS X (.Return (some e) pos) (t1 b W ws (.retZ i x)) := by
  refine ⟨fun pins s σ H D I q => ?_⟩
  obtain ⟨H0, M, B, ρ, G, q⟩ := q
  dsimp only at q
  rw [exS] at q
  rcases slot_cases (ρ := ρ) i with ⟨d, e1⟩ | e1
  · simp only [e1] at q
    obtain ⟨p, e2, t, m, nb⟩ := G.own i d e1 (by rw [hk]; rfl)
    have tc := t.code
    obtain ⟨u, eu, mu, rp⟩ := t.freeze
    obtain ⟨od, I2⟩ := I.lock eu mu
    have G1 := (G.drop i).freeze (o := od) eu mu (G.moved e1 (by rw [hk]; rfl) e2) nb m tc
    have G2 := G1.asVal (List.getElem?_eq_some_iff.mp hk).1 e1 e2 (rp od)
    refine (ps_ret (he (cn.zap i))).run pins s σ _ D I2 ⟨H0, M, B, ρ, G2, ?_⟩
    show aftE (b.zap i) W false H0 M B σ _ _ (evE b.pg b.C x ρ)
    cases hx : evE b.pg b.C x ρ with
    | bad => rw [hx] at q; exact q.elim
    | exc c d ρ' => rw [hx] at q; exact q.elim
    | ok d1 ρ1 =>
      rw [hx] at q
      intro v H' k G3 r
      refine q v σ H' ((Kept.put (by rw [eu]; exact mu)).trans k) (But.refl σ) (Stt.unVal G3) ?_
      unfold RetR
      rw [hf, Bool.and_false, if_neg Bool.false_ne_true]
      exact r.old
  · split at q
    · rename_i h; exact absurd h (e1 _)
    · exact q.elim
end
end PV

set_option maxHeartbeats 4000000
/-! PV26: name = {k: v for ..} on one line. -/
namespace PV
open PySem L2 PySem.Spec PyProof.Rows
/-- the constant x of the written part is the datum d -/
def constIn (K : PySem.W.Frag) (x : Str) (d : D) : Bool := match PySem.W.nsIn K mainGlobals x with
  | some (some u) => constB K d u
  | _ => false
theorem constAt2 {K : PySem.W.Frag} {h : Heap} {mg : Str → Option Value} {x : Str} {d : D} (KX : K.In h) (G : h.Ns mainGlobals mg) (c : constIn K x d = true) : ConstAt K mg x d := by
  unfold constIn at c
  split at c
  · rename_i u hu
    exact constAt KX G hu c
  · cases c
theorem bt_sorted : bootBuiltins "sorted" = some (.builtin "sorted") := by decide +kernel
section
variable {X : Cx} {b : Bd} {W : WX}
section
variable {kx vx tg iter : Expr} {ifs : List Expr} {scope : Scope} {own : List (Str × Nat)} {pos : Pos} {wi : TI} {g : TG} {tt : TT} {tk tv : TE}
theorem dn_core {pins : List (Addr × Obj)} {s : Shared} {σ : L2.St} {H : Hp} {Q : VK} {pos' : Pos} {use : Option (Value → Sem Unit)} {Qf : Value → Shared → Prop} (cn : Cn X b W) (I : L2.Inv X pins σ H s) (hi : PI X tg iter wi) (ok : BlkOk X.N X.env.scope scope own)
    (hg : ∀ (s : Shared) (H : Hp) (C : Addr) (cl : List (Str × Addr)) (fp : List Addr), PG (X.blk s H scope (compEnvC scope cl C X.env) fp) tg g) (ht : ∀ (s : Shared) (H : Hp) (C : Addr) (cl : List (Str × Addr)) (fp : List Addr), PTs (X.blk s H scope (compEnvC scope cl C X.env) fp) ifs tt)
    (hk : ∀ (s : Shared) (H : Hp) (C : Addr) (cl : List (Str × Addr)) (fp : List Addr), PE (X.blk s H scope (compEnvC scope cl C X.env) fp) kx tk)
    (he : ∀ (s : Shared) (H : Hp) (C : Addr) (cl : List (Str × Addr)) (fp : List Addr), PE (X.blk s H scope (compEnvC scope cl C X.env) fp) vx tv) (hs : ∀ x, foldedSetIterable iter X.env x = pure x) (h : tDn X wi g tt tk tv (own.map (·.2)) σ H Q)
    (hRR : ∀ (D C : Addr) (s' : Shared) (m : Str → Option Value) (H' : Hp), L2.Inv X pins σ H' s' → Q (.ref D) H' → s'.heap.Ns C m → FpOk X pins H' C → compPost (model X.prog X.w) X.A X.xe use Qf (.ref D) C (.ok .next) s') :
    wpAny (model X.prog X.w) X.A (comprehension (.DictComp kx vx [⟨tg, iter, ifs, 0⟩] scope pos) scope X.env pos' newDict false (eval iter X.env) use) Qf X.xe s := by
  have captured : ∀ y ∈ scope.names, y.2 = .free → ∃ c, X.env.cells.lookup y.1 = some c := fun y hy e => (ok.free y hy e).elim (fun k => I.ok.has _ (.inl k)) (fun k => I.ok.has _ (.inr k))
  refine PySem.wpAny_comprehension_free (use := use) rfl hs (closure_ok captured) ok.kind (fun y hy e => by rw [ok.uniq y hy, e]) (thn (hi.run pins s σ H _ I h) fun xv s1 hx => thn hx ?_)
  rintro itv s2 ⟨it, fp, tn, J, H2, rfl, I2, T, st2, f2, q⟩
  refine wpAny_newObj_type (newEnv_comp ?_)
  -- the new dict
  have nD : H2 s2.heap.objs.size = none := I2.hok.fresh (Nat.le_refl _)
  obtain ⟨Z, ⟨m0, z0⟩, turn⟩ := q _ nD
  generalize hD : s2.heap.objs.size = D at nD z0 turn ⊢
  generalize hs3 : ({ s2 with heap := s2.heap.push { cls := .type "dict", data := .dict #[] } } : Shared) = s3
  have p3 : ∀ c o, s2.heap.get? c = some o → s3.heap.get? c = some o := fun c o e => by rw [← hs3]; exact Heap.get?_push_of_some _ e
  have n3 : s2.heap.objs.size < s3.heap.objs.size := by rw [← hs3]; show _ < (Heap.push _ _).objs.size; rw [Heap.size_push]; exact Nat.lt_succ_self _
  have I3 : L2.Inv X pins σ (upd H2 D (.dK [])) s3 := by
    rw [← hs3, ← hD]
    exact I2.laid (t' := s2.toks) (fun c o e => Heap.get?_push_of_some _ e) (Nat.le_refl _) (dk_empty s2.heap I2.big)
  have f3 : ∀ c ∈ fp, FpOk X pins (upd H2 D (.dK [])) c ∧ c < s3.heap.objs.size := fun c hc => by
    obtain ⟨o, e, _⟩ := T.obj _ _ st2 c hc
    have hlt := Heap.lt_size e
    refine ⟨⟨?_, (f2 c hc).2⟩, Nat.lt_trans hlt n3⟩
    rw [upd_ne (fun e => Nat.lt_irrefl _ (by rw [e, ← hD] at hlt; exact hlt))]
    exact (f2 c hc).1
  have st3 : tn 0 s3.heap := T.keep _ _ _ st2 fun c _ o e => p3 c o e
  have I4 := block_start I3 ok cn.nd f3
  generalize hcl : cellsFrom (s3.heap.objs.size + 1) scope.names (cloFrom X.env.cells scope.names []) = cl at I4
  generalize hH3 : upd H2 D (.dK []) = H3 at I3 I4 z0 f3
  have pg := hg s3 H3 s3.heap.objs.size cl fp
  have pt := ht s3 H3 s3.heap.objs.size cl fp
  have pk := hk s3 H3 s3.heap.objs.size cl fp
  have pv := he s3 H3 s3.heap.objs.size cl fp
  have cL : (compEnvC scope cl s3.heap.objs.size X.env).locals = s3.heap.objs.size := rfl
  generalize hce : compEnvC scope cl s3.heap.objs.size X.env = ce at I4 pg pt pk pv cL
  generalize hs4 : ({ s3 with heap := pushCells (s3.heap.push { cls := .type "dict", data := .dict #[] }) scope.names } : Shared) = s4 at I4
  have st4 : tn 0 s4.heap := T.keep _ _ _ st3 fun c _ o e => by rw [← hs4]; exact pushCells_keeps _ _ _ _ (Heap.get?_push_of_some _ e)
  have stand : ∀ {σ' : L2.St} {H' : Hp} {s' : Shared}, L2.Inv (X.blk s3 H3 scope ce fp) [] σ' H' s' → (∀ c ∈ fp, H' c = none) → ∀ c ∈ fp, FpOk (X.blk s3 H3 scope ce fp) [] H' c := fun {σ' H' s'} I' hn c hc =>
    ⟨hn c hc, (I'.ok.exf c hc).1, I'.ok.exfs c hc, .inl hc, fun x a e => (I'.ok.exf c hc).2 x a e, fun p hp => absurd (show p ∈ ([] : List (Addr × Obj)) ++ [] from hp) (by simp)⟩
  have room : (X.blk s3 H3 scope ce fp).A.units + 65 < cLine := cn.u65
  have loop : codeAny (model X.prog X.w) X.A (.compLoop (.DictComp kx vx [⟨tg, iter, ifs, 0⟩] scope pos) 0 (.ref it) (.ref D) ce) (compPost (model X.prog X.w) X.A X.xe use Qf (.ref D) s3.heap.objs.size) s4 := by
    refine compLoop_anyD (fun n s' => ∃ i H', L2.Inv (X.blk s3 H3 scope ce fp) [] (wipe σ (own.map (·.2))) H' s' ∧ tn i s'.heap ∧ (∀ c ∈ fp, H' c = none) ∧ Z i n H') ?_ m0 ⟨0, H3, I4, st4, fun c hc => (f3 c hc).1.1, z0⟩
    rintro n s5 ⟨i, H5, I5, st5, n5, z5⟩
    rcases turn i n H5 z5 with ⟨stop, fin⟩ | ⟨go, Nx, hNx, step⟩
    · refine thnF (T.done (X.blk s3 H3 scope ce fp) rfl rfl rfl cn.calm i [] s5 _ H5 (fun _ _ => False) I5 (stand I5 n5) st5 stop) ?_
      rintro r s6 ⟨rfl, I6⟩
      have I7 : L2.Inv X pins σ H5 s6 := I3.call' (ch := fp) I6.os I6.base I6.hok I6.bare fun c hc => ⟨(f3 c hc).1.2.2.2.1, (f3 c hc).1.2.1, (f3 c hc).1.2.2.2.2.1, (f3 c hc).1.2.2.2.2.2⟩
      have nC : H5 s3.heap.objs.size = none := by
        have z : H5 ce.locals = none := I6.free
        rw [cL] at z
        exact z
      obtain ⟨m, hn, _⟩ := I6.loc
      have hn : s6.heap.Ns ce.locals m := hn
      rw [cL] at hn
      exact hRR D s3.heap.objs.size s6 m H5 I7 fin hn (I3.fpOk (Nat.le_refl _) nC)
    · refine thnF (T.item (X.blk s3 H3 scope ce fp) rfl rfl rfl cn.calm i [] s5 _ H5 (fun _ _ => False) I5 (stand I5 n5) st5 go) ?_
      rintro r s6 ⟨u, rfl, h6⟩
      refine thnF h6 ?_
      rintro _ s7 ⟨x, H7, I7, r7, y7, st7, n7⟩
      have I7' := I7.pinned (stand I7 n7) (T.obj _ _ st7)
      refine thnF (pg.run _ s7 _ H7 x u _ I7' r7 (step x H7 y7)) ?_
      rintro _ s8 ⟨σ8, H8, I8, hw8, q8⟩
      refine thnF (pt.run _ s8 σ8 H8 _ I8 q8) ?_
      rintro c s9 ⟨H9, I9, q9⟩
      have next : ∀ {s' : Shared} {H' : Hp}, L2.Inv (X.blk s3 H3 scope ce fp) ([] ++ pinsAt fp s7.heap) σ8 H' s' → Nx H' → ∃ m, m < n ∧ ∃ i H', L2.Inv (X.blk s3 H3 scope ce fp) [] (wipe σ (own.map (·.2))) H' s' ∧ tn i s'.heap ∧ (∀ c ∈ fp, H' c = none) ∧ Z i m H' := fun {s' H'} I' nx => by
        obtain ⟨m', hm, w'⟩ := hNx H' nx
        have pinned : ∀ c ∈ fp, ∀ o, s7.heap.get? c = some o → s'.heap.get? c = some o ∧ H' c = none := fun c hc o e =>
          have z := I'.pin (c, o) (List.mem_append_right _ (List.mem_append_right _ (mem_pinsAt hc e)))
          ⟨z.1, z.2.1⟩
        refine ⟨m', hm, i + 1, H', (I'.unpinned (pins := [])).weak (by rw [← hw8, wipe_length]) (fun j v e => (wipe_some (by rw [hw8]; exact e)).1), T.keep _ _ _ st7 fun c hc o e => (pinned c hc o e).1, fun c hc => ?_, w'⟩
        obtain ⟨o, e, _⟩ := T.obj _ _ st7 c hc
        exact (pinned c hc o e).2
      cases c with
      | false =>
        simp only [Bool.false_eq_true, if_false] at q9 ⊢
        exact next I9 q9
      | true =>
        simp only [if_true] at q9 ⊢
        refine thnF (pk.run _ s9 σ8 H9 _ I9 q9) ?_
        rintro w1 s10 ⟨yk, H10, I10, r10, q10⟩
        refine thnF (pv.run _ s10 σ8 H10 _ I10 q10) ?_
        rintro w2 s11 ⟨yv, H11, I11, r11, kvs, kd, xd, tp, rk, rx, hf, hz, nx⟩
        exact dset_put (X := X.blk s3 H3 scope ce fp) room I11 tp rk rx hf hz r10 r11 fun ob s12 t2 I12 => next I12 (nx ob t2)
  subst hce
  exact codeAny_compStart_dict loop (T.self X.A 0 _ _ _ st4 loop)
theorem ps_setDn {i : Nat} {y : Str} {py spos : Pos} (cn : Cn X b W) (hy : X.N[i]? = some y) (hyl : X.env.scope.names.lookup y = some .local) (hsw : swapsWith (.DictComp kx vx [⟨tg, iter, ifs, 0⟩] scope pos) (some (.Name y py)) spos.line X.env = pure true) (hi : PI X tg iter wi) (ok : BlkOk X.N X.env.scope scope own)
    (hg : ∀ (s : Shared) (H : Hp) (C : Addr) (cl : List (Str × Addr)) (fp : List Addr), PG (X.blk s H scope (compEnvC scope cl C X.env) fp) tg g) (ht : ∀ (s : Shared) (H : Hp) (C : Addr) (cl : List (Str × Addr)) (fp : List Addr), PTs (X.blk s H scope (compEnvC scope cl C X.env) fp) ifs tt)
    (hk : ∀ (s : Shared) (H : Hp) (C : Addr) (cl : List (Str × Addr)) (fp : List Addr), PE (X.blk s H scope (compEnvC scope cl C X.env) fp) kx tk)
    (he : ∀ (s : Shared) (H : Hp) (C : Addr) (cl : List (Str × Addr)) (fp : List Addr), PE (X.blk s H scope (compEnvC scope cl C X.env) fp) vx tv) (hs : ∀ x, foldedSetIterable iter X.env x = pure x) :
    PS X (.Assign [.Name y py] (.DictComp kx vx [⟨tg, iter, ifs, 0⟩] scope pos) spos) (tAsg (tDn X wi g tt tk tv (own.map (·.2))) (gName i)) := by
  refine ⟨fun pins s σ H Z I h => ?_⟩
  rw [exec_Assign_Name_used _ _ _ _ hsw]
  refine wpAny_bind (wpAny_standAt (wpAny_bind ?_))
  show wpAny _ X.A (do let _ ← comprehension (.DictComp kx vx [⟨tg, iter, ifs, 0⟩] scope pos) scope X.env (firstIterPos [⟨tg, iter, ifs, 0⟩] pos) newDict false (eval iter X.env) (some (assign (.Name y py) X.env))) _ _ s
  have h : tDn X wi g tt tk tv (own.map (·.2)) σ H (fun x H1 => gName i x σ H1 Z.nx) := h
  refine wpAny_bind (thn (dn_core (Qf := fun _ s' => SP X pins Z .next s') cn I hi ok hg ht hk he hs h fun D C s' m H' I' q hn f => ?_) fun _ s' hq => wpAny_pure (wpAny_pure hq))
  obtain ⟨f0, f1, f2, f3, f4, f5⟩ := f
  refine wpAny_assign_Name (store_ok2 (v := V.ref D) I' cn.nd hy (.inl hyl) rfl (fun s2 I2 ⟨a, sb, ha⟩ => ?_) (.inr hyl))
  have ne : C ≠ a := by
    rcases ha with z | z
    · rw [z]; exact f1
    · exact fun e => f4 y a z e.symm
  exact ⟨m, hn.sameBut sb ne, fun h3 sb3 => ⟨_, H', I2.turned (t' := s2.toks) (fun c o hc e => (sb3.2 c hc).trans e) f0 f1 f3 f4 f5, q⟩⟩
end
section
variable {ws : List Nat} {i : Nat} {nm : Str} {y z : PV.X} {tg : Tg} {sk : Sk} {xs ifx : List PV.X} {vs : List Nat} {kx elt target iter : Expr} {ifs : List Expr} {scope : Scope} {own : List (Str × Nat)} {pos pos' spos : Pos}
theorem swd_true {ka va : Expr} {gs : List Comprehension} {py : Pos} {l : Nat} {env : Env} (hk : env.scope.kind = .function) (hy : env.scope.names.lookup nm = some .local) (hl : (py.line == pos.line) = true)
    (ha : (scope.names.any fun (n, k) => n == nm && (k == .local || k == .cell)) = false) : swapsWith (.DictComp ka va gs scope pos) (some (.Name nm py)) l env = pure true := by
  have ky : env.kindOf nm = some .local := hy
  have hb : env.blockKind = .function := by unfold Env.blockKind; rw [hk]; rfl
  unfold swapsWith
  simp only [hb, ky, ha, Expr.pos, hl]
  rfl
theorem sVDc (cn : Cn X b W) (i : Nat) (hsw : swapsWith (.DictComp kx elt [⟨target, iter, ifs, 0⟩] scope pos) (some (.Name nm pos')) spos.line X.env = pure true)
    (hi : PI X target iter (tI b W sk xs)) (ok : BlkOk X.N X.env.scope scope own) (hv : own.map (·.2) = vs) (lk : lcOk b.ks xs tg vs X.N.length = true)
    (hg : ∀ (s : Shared) (H : Hp) (C : Addr) (cl : List (Str × Addr)) (fp : List Addr), PG (X.blk s H scope (compEnvC scope cl C X.env) fp) target (gTg X.K tg))
    (ht : ∀ (s : Shared) (H : Hp) (C : Addr) (cl : List (Str × Addr)) (fp : List Addr), Cn (X.blk s H scope (compEnvC scope cl C X.env) fp) b WF → PTs (X.blk s H scope (compEnvC scope cl C X.env) fp) ifs (tIfs b WF ifx))
    (hk : ∀ (s : Shared) (H : Hp) (C : Addr) (cl : List (Str × Addr)) (fp : List Addr), Cn (X.blk s H scope (compEnvC scope cl C X.env) fp) b WF → PE (X.blk s H scope (compEnvC scope cl C X.env) fp) kx (tR b WF false y))
    (he : ∀ (s : Shared) (H : Hp) (C : Addr) (cl : List (Str × Addr)) (fp : List Addr), Cn (X.blk s H scope (compEnvC scope cl C X.env) fp) b WF → PE (X.blk s H scope (compEnvC scope cl C X.env) fp) elt (tR b WF false z))
    (hn : X.N[i]? = some nm := by rfl) (hkk : b.ks[i]? = some .val := by rfl) (hw : ws.contains i = true := by rfl) (hyl : X.env.scope.names.lookup nm = some .local := by rfl)
    (hs : ∀ x, foldedSetIterable iter X.env x = pure x := by intro _; rfl) : PS X (.Assign [.Name nm pos'] (.DictComp kx elt [⟨target, iter, ifs, 0⟩] scope pos) spos) (t1 b W ws (.asg (.nm i) (.dc y z tg sk xs ifx vs))) := by
  obtain ⟨h1, h2, h3⟩ := lcOk_by lk
  refine PV.PS.len (PV.PS.frzN (ps_setDn cn hn hyl hsw hi ok hg (fun s H C cl fp => ht s H C cl fp (cn.blk s H scope _ fp)) (fun s H C cl fp => hk s H C cl fp (cn.blk s H scope _ fp)) (fun s H C cl fp => he s H C cl fp (cn.blk s H scope _ fp)) hs)) fun D σ H hl q => ?_
  show tDn _ _ _ _ _ _ (own.map (·.2)) σ H _
  rw [hv]
  exact dn_tm (by rw [cn.g]) h1 (fun j hj => by rw [hl]; exact h2 j hj) h3 (val_lc (by rw [hl]; exact (List.getElem?_eq_some_iff.mp hn).1) hkk hw q)
theorem sODc (cn : Cn X b W) (i : Nat) (hsw : swapsWith (.DictComp kx elt [⟨target, iter, ifs, 0⟩] scope pos) (some (.Name nm pos')) spos.line X.env = pure true)
    (hi : PI X target iter (tI b W sk xs)) (ok : BlkOk X.N X.env.scope scope own) (hv : own.map (·.2) = vs) (lk : lcOk b.ks xs tg vs X.N.length = true)
    (hg : ∀ (s : Shared) (H : Hp) (C : Addr) (cl : List (Str × Addr)) (fp : List Addr), PG (X.blk s H scope (compEnvC scope cl C X.env) fp) target (gTg X.K tg))
    (ht : ∀ (s : Shared) (H : Hp) (C : Addr) (cl : List (Str × Addr)) (fp : List Addr), Cn (X.blk s H scope (compEnvC scope cl C X.env) fp) b WF → PTs (X.blk s H scope (compEnvC scope cl C X.env) fp) ifs (tIfs b WF ifx))
    (hk : ∀ (s : Shared) (H : Hp) (C : Addr) (cl : List (Str × Addr)) (fp : List Addr), Cn (X.blk s H scope (compEnvC scope cl C X.env) fp) b WF → PE (X.blk s H scope (compEnvC scope cl C X.env) fp) kx (tR b WF false y))
    (he : ∀ (s : Shared) (H : Hp) (C : Addr) (cl : List (Str × Addr)) (fp : List Addr), Cn (X.blk s H scope (compEnvC scope cl C X.env) fp) b WF → PE (X.blk s H scope (compEnvC scope cl C X.env) fp) elt (tR b WF false z))
    (hn : X.N[i]? = some nm := by rfl) (hkk : b.ks[i]? = some .own := by rfl) (hw : ws.contains i = true := by rfl) (hyl : X.env.scope.names.lookup nm = some .local := by rfl)
    (hs : ∀ x, foldedSetIterable iter X.env x = pure x := by intro _; rfl) : PS X (.Assign [.Name nm pos'] (.DictComp kx elt [⟨target, iter, ifs, 0⟩] scope pos) spos) (t1 b W ws (.asgO i (.dc y z tg sk xs ifx vs))) := by
  obtain ⟨h1, h2, h3⟩ := lcOk_by lk
  refine PV.PS.len (ps_setDn cn hn hyl hsw hi ok hg (fun s H C cl fp => ht s H C cl fp (cn.blk s H scope _ fp)) (fun s H C cl fp => hk s H C cl fp (cn.blk s H scope _ fp)) (fun s H C cl fp => he s H C cl fp (cn.blk s H scope _ fp)) hs) fun D σ H hl q => ?_
  show tDn _ _ _ _ _ _ (own.map (·.2)) σ H fun v H1 => D.nx (σ.set i (some v)) H1
  rw [hv]
  exact dn_tm (by rw [cn.g]) h1 (fun j hj => by rw [hl]; exact h2 j hj) h3 (own_tm (by rw [hl]; exact (List.getElem?_eq_some_iff.mp hn).1) hkk hw q)
end
end
end PV

set_option maxHeartbeats 4000000
/-! PV27: slices of lists; displays of dicts with written texts as keys. -/
namespace PV
open PySem L2
section
variable {X : Cx} {b : Bd} {W : WX} {a c d e : Expr} {pos p2 : Pos} {x y z : PV.X}
theorem sIx_zero (n : Nat) : HT.sIx n 0 none = 0 := rfl
theorem sIx_end (n : Nat) : HT.sIx n n none = n := rfl
theorem cutV_hi {vs : List V} {j : Int} : cutV vs none (some j) = vs.take (HT.sIx vs.length vs.length (some j)) := by
  unfold cutV
  rw [sIx_zero, List.drop_zero, Nat.sub_zero]
theorem cutV_lo {vs : List V} {i : Int} : cutV vs (some i) none = vs.drop (HT.sIx vs.length 0 (some i)) := by
  unfold cutV
  rw [sIx_end, List.take_of_length_le (by rw [List.length_drop]; omega)]
/-- l[:j] -/
theorem eSlHi (cn : Cn X b W) (ha : PE X a (tO b W x)) (hc : PE X c (tO b W y)) : PE X (.Subscript a (.Slice none (some c) none p2) pos) (tR b W true (.op (.slice false true) [x, y])) := by
  refine PV.PE.imp (pe_slice sl_list ha po_none (po_some hc)) (op_R fun σ H Q q => ?_)
  refine imp_O (ops2 q) fun v H1 q1 => imp_O q1 fun u H2 r => ?_
  obtain ⟨ds, z, hb, hp, k⟩ := r
  obtain ⟨d, e, rfl, h1, h2⟩ := hb.two
  cases d <;> try (exact noCase (show (none : Option D) = some z from hp))
  rename_i es
  cases e <;> try (exact noCase (show (none : Option D) = some z from hp))
  rename_i j
  have hz : PyData.list (es.take (HT.sIx es.length es.length (some j))) = z := Option.some.inj hp
  subst hz
  obtain ⟨a, vs, rfl, s1, r1⟩ := h1.lst
  cases h2.int
  refine ⟨j, rfl, a, vs, rfl, ?_, fun p hp2 => k _ _ (same_new hp2) (.lst rfl hp2 ?_)⟩
  · have := s1.sq
    rw [cn.g] at this
    exact this
  · rw [cutV_hi, r1.length]
    exact Reps.take _ r1
/-- l[i:] -/
theorem eSlLo (cn : Cn X b W) (ha : PE X a (tO b W x)) (hc : PE X c (tO b W y)) : PE X (.Subscript a (.Slice (some c) none none p2) pos) (tR b W true (.op (.slice true false) [x, y])) := by
  refine PV.PE.imp (pe_slice sl_list ha (po_some hc) po_none) (op_R fun σ H Q q => ?_)
  refine imp_O (ops2 q) fun v H1 q1 => imp_O q1 fun u H2 r => ?_
  obtain ⟨ds, z, hb, hp, k⟩ := r
  obtain ⟨d, e, rfl, h1, h2⟩ := hb.two
  cases d <;> try (exact noCase (show (none : Option D) = some z from hp))
  rename_i es
  cases e <;> try (exact noCase (show (none : Option D) = some z from hp))
  rename_i j
  have hz : PyData.list (es.drop (HT.sIx es.length 0 (some j))) = z := Option.some.inj hp
  subst hz
  obtain ⟨a, vs, rfl, s1, r1⟩ := h1.lst
  cases h2.int
  refine ⟨j, rfl, a, vs, rfl, ?_, fun p hp2 => k _ _ (same_new hp2) (.lst rfl hp2 ?_)⟩
  · have := s1.sq
    rw [cn.g] at this
    exact this
  · rw [cutV_lo, r1.length]
    exact Reps.drop _ r1
/-! ### {'a': x, 'b': y} -/
def trsOf (b : Bd) (W : WX) : List Str → List PV.X → List (TE × TE)
  | s :: ss, x :: xs => (tE b W (.str s), tE b W x) :: trsOf b W ss xs
  | _, _ => []
def DisOk (X : Cx) (b : Bd) (W : WX) : List (Option Expr) → List Expr → List Str → List PV.X → Prop
  | [], [], [], [] => True
  | some k :: ks, v :: vs, s :: ss, x :: xs => PE X k (tE b W (.str s)) ∧ PE X v (tE b W x) ∧ DisOk X b W ks vs ss xs
  | _, _, _, _ => False
theorem pps_dis : ∀ {ks : List (Option Expr)} {vs : List Expr} {ss : List Str} {xs : List PV.X}, DisOk X b W ks vs ss xs → PPs X pos ks vs (trsOf b W ss xs) ∧ ks.all (·.isSome) = true ∧ ks.length = vs.length ∧ ks.length = ss.length ∧ ss.length = xs.length
  | [], [], [], [], _ => ⟨pps_nil, rfl, rfl, rfl, rfl⟩
  | some k :: ks, v :: vs, s :: ss, x :: xs, h => by
    obtain ⟨h1, h2, h3⟩ := h
    obtain ⟨i1, i2, i3, i4, i5⟩ := pps_dis h3
    exact ⟨pps_cons h1 h2 i1, by simpa using i2, by simp [i3], by simp [i4], by simp [i5]⟩
theorem pairs_tm : ∀ (ss : List Str) (xs : List PV.X) {H0 H : Hp} {M : Addr → Prop} {B : Lent} {σ : L2.St} {ρ : Rho} {Q : List (V × V) → Hp → Prop}, ss.length = xs.length → Stt b.g b.T b.ks H0 M B H σ ρ →
    aftL b W H0 M B σ H (fun vs H' => Q ((ss.map V.str).zip vs) H') (evEs b.pg b.C xs ρ) → tPairs (trsOf b W ss xs) σ H Q
  | [], [], H0, H, M, B, σ, ρ, Q, _, G, q => by
    rw [evEs] at q
    exact q [] H (Kept.refl H) G .nil
  | s :: ss, x :: xs, H0, H, M, B, σ, ρ, Q, hl, G, q => by
    rw [evEs] at q
    refine ⟨H0, M, B, ρ, G, ?_⟩
    rw [evE]
    intro v H1 k1 G1 r1
    have ev : v = .str s := by
      have := r1.old
      rw [Rep] at this
      exact this
    subst ev
    refine ⟨H0, M, B, ρ, G1, ?_⟩
    cases h1 : evE b.pg b.C x ρ with
    | bad => rw [h1] at q; exact q
    | exc c d ρ' => rw [h1] at q; exact fun cls dd H' k => q cls dd H' (k1.trans k)
    | ok d ρ1 =>
      rw [h1] at q
      intro w H2 k2 G2 r2
      refine pairs_tm ss xs (by simpa using hl) G2 ?_
      have q : aftL b W H0 M B σ H (fun vs H' => Q (((s :: ss).map V.str).zip vs) H') ((evEs b.pg b.C xs ρ1).bind fun ds ρ2 => .ok (d :: ds) ρ2) := q
      cases h2 : evEs b.pg b.C xs ρ1 with
      | bad => rw [h2] at q; exact q
      | exc c d ρ' => rw [h2] at q; exact fun cls dd H' k => q cls dd H' (k1.trans (k2.trans k))
      | ok ds ρ2 =>
        rw [h2] at q
        exact fun vs H3 k3 G3 r3 => q (w :: vs) H3 (k1.trans (k2.trans k3)) G3 (.cons (Rep.mono k3 d r2.old) r3)
  | [], _ :: _, _, _, _, _, _, _, _, hl, _, _ => by simp at hl
  | _ :: _, [], _, _, _, _, _, _, _, hl, _, _ => by simp at hl
theorem mergeK_new : ∀ (kvs acc : List (Key × V)), ((acc ++ kvs).map (·.1)).Nodup → mergeK acc kvs = acc ++ kvs
  | [], acc, _ => by rw [List.append_nil]; rfl
  | p :: r, acc, h => by
    have : putK acc p.1 p.2 = acc ++ [p] := by
      have hn : ∀ q ∈ acc, q.1 ≠ p.1 := fun q hq e => by
        rw [List.map_append, List.nodup_append] at h
        exact h.2.2 q.1 (List.mem_map_of_mem hq) p.1 (by simp) e
      have h0 : (acc.any fun kv => decide (kv.1 = p.1)) = false := List.any_eq_false.mpr fun q hq => by
        rw [decide_eq_true_eq]
        exact hn q hq
      unfold putK
      rw [h0]
      rfl
    show mergeK (putK acc p.1 p.2) r = _
    rw [this, mergeK_new r (acc ++ [p]) (by simpa using h)]
    simp
theorem zip_kV : ∀ (ss : List Str) (vs : List V), (ss.map V.str).zip vs = ((ss.map (Sum.inr : Str → Key)).zip vs).map fun kv => (kV kv.1, kv.2)
  | [], _ => rfl
  | s :: ss, [] => rfl
  | s :: ss, v :: vs => by
    show (V.str s, v) :: (ss.map V.str).zip vs = _
    rw [zip_kV ss vs]
    rfl
theorem reps_zip {g : Wd} {H : Hp} : ∀ (ss : List Str) {ds : List D} {vs : List V}, Reps g H ds vs → RepKs g H ((ss.map PyData.str).zip ds) ((ss.map V.str).zip vs)
  | [], _, _, _ => by rw [show (([] : List Str).map PyData.str).zip _ = [] from rfl, RepKs]; rfl
  | s :: ss, [], vs, r => by
    rw [Reps] at r
    subst r
    show RepKs g H [] []
    rw [RepKs]
  | s :: ss, d :: ds, vs, r => by
    rw [Reps] at r
    obtain ⟨v, t, rfl, r1, r2⟩ := r
    show RepKs g H ((.str s, d) :: (ss.map PyData.str).zip ds) ((.str s, v) :: (ss.map V.str).zip t)
    rw [RepKs]
    exact ⟨_, _, _, rfl, by rw [Rep], r1, reps_zip ss r2⟩
theorem disNil : DisOk X b W [] [] [] [] := True.intro
theorem disCons {k v : Expr} {s : Str} {x : PV.X} {ks : List (Option Expr)} {vs : List Expr} {ss : List Str} {xs : List PV.X} (h1 : PE X k (tE b W (.str s))) (h2 : PE X v (tE b W x)) (h3 : DisOk X b W ks vs ss xs) : DisOk X b W (some k :: ks) (v :: vs) (s :: ss) (x :: xs) := ⟨h1, h2, h3⟩
theorem eDis {keys : List (Option Expr)} {vals : List Expr} {ss : List Str} {xs : List PV.X} (cn : Cn X b W) (h : DisOk X b W keys vals ss xs) (c1 : ss.Nodup := by decide +kernel) (c2 : ss.length ≤ 15 := by decide) (c3 : ss ≠ [] := by exact fun z => nomatch z) : PE X (.Dict keys vals pos) (tR b W true (.dis ss xs)) := by
  obtain ⟨h1, h2, h3, h4, h5⟩ := pps_dis (pos := pos) h
  refine PV.PE.imp (pe_disp h1 h2 h3 (fun e => c3 (by rw [e] at h4; exact List.length_eq_zero_iff.mp h4.symm)) (by omega)) fun σ H Q q => ?_
  obtain ⟨H0, M, B, ρ, G, q⟩ := q
  rw [evE] at q
  intro p np
  have G1 := G.same (same_new (o := .dK []) np)
  have no : ¬ OwnAt b.ks σ ρ p := fun ⟨j, d, h1, h2, h3⟩ => G.ap_new np j d h1 h2 h3
  have GL := G1.lend (p := p) (by rw [upd_same]; exact fun z => nomatch z) no
  refine pairs_tm ss xs h5 GL ?_
  cases hx : evEs b.pg b.C xs ρ with
  | bad => rw [hx] at q; exact q
  | exc c d ρ' => rw [hx] at q; exact fun cls dd H' k G' => q cls dd H' ((Kept.new np).trans k) (G1.unlend G' k).1
  | ok ds ρ1 =>
    rw [hx] at q
    intro vs H2 k2 G2 r2
    have tp : H2 p = some (.dK []) := G2.frame p _ upd_same no (fun ps e => nomatch e)
    obtain ⟨G3, no3⟩ := G1.unlend G2 k2
    have q : aftE b W true H0 M B σ H Q (if decide (ss.length = ds.length) && decide ss.Nodup && decide (ss.length ≤ 15) && decide (ss ≠ []) then .ok (.dict ((ss.map PyData.str).zip ds)) ρ1 else .bad) := q
    split at q
    · rename_i hq
      have hq : ss.length = ds.length := by
        simp only [Bool.and_eq_true, decide_eq_true_eq] at hq
        exact hq.1.1.1
      have lv : vs.length = ss.length := by rw [r2.length, hq]
      refine ⟨tp, (ss.map (Sum.inr : Str → Key)).zip vs, zip_kV ss vs, by rw [List.length_zip, List.length_map]; omega, ?_⟩
      rw [mergeK_new _ [] (by
        rw [List.nil_append, List.map_fst_zip (by rw [List.length_map]; omega)]
        exact List.Pairwise.map _ (fun a b hne e => hne (by injection e)) c1), List.nil_append]
      have mu : Mut (H2 p) := by rw [tp]; trivial
      refine q _ _ (((Kept.new np).trans k2).trans (Kept.put mu)) (G3.put mu no3 (G.nb_new np) (G.new0 np) ?_) ?_
      · rw [tp]
        exact ⟨fun q z => (by cases z), fun ps z => (by cases z)⟩
      · unfold RR
        refine ⟨p, rfl, ⟨NF.of_none np, no3, G.nb_new np, G.new0 np⟩, ?_⟩
        refine ⟨_, _, upd_same, .inl ⟨_, rfl, rfl⟩, ?_⟩
        rw [← zip_kV]
        exact reps_zip ss (Reps.mono (Kept.put mu) ds r2)
    · exact q.elim
end
end PV

set_option maxHeartbeats 4000000
/-! PV28: loops over a dict that is a value. -/
namespace PV
open PySem L2
/-- the keys of the frozen dict at a -/
def ItD (a : Addr) (o : Obj) (u : HO) (ks : List (V × V)) : It :=
  ⟨fun i H => H a = some (.frz o u) ∧ i < ks.length, fun i H x H' => H' = H ∧ ∃ v, ks[i]? = some (x, v), fun i H => H a = some (.frz o u) ∧ ks.length ≤ i⟩
theorem turn_dict {P : Program} {w : World} {K : PySem.W.Frag} {tg : Expr} {a : Addr} {o : Obj} {es : Array DictEntry} {ep : Nat} {u : HO} {kvs : List (D × D)} {ks : List (V × V)} (it : Addr) (sh : DSh ⟨P, w, K⟩ a u (kvs.map (·.1)) ks) (hod : o.data = .dict es ep) :
    Turn P w K tg (ItD a o u ks) [it] it (fun i h => h.IsKeyIter it a i ks.length ep) where
  mem := by simp
  obj := fun i h st b hb => by
    have e : b = it := by simpa using hb
    subst e
    obtain ⟨oi, e, c, dd⟩ := st
    exact ⟨oi, e, fun v z => by rw [dd] at z; cases z⟩
  keep := fun i h h' st k => st.at fun oi e => k it (by simp) oi e
  item := by
    intro X hP hw hK hc i pins s σ H E I hf st hg
    subst hP hw hK
    obtain ⟨hd, hi⟩ := hg
    obtain ⟨f0, f1, f2, f3, f4, f5⟩ := hf it (by simp)
    obtain ⟨o', es', ep', ho', hx, hdt, hs, hz, en⟩ := dct_raw I (.inr ⟨o, hd⟩) sh
    have ho : s.heap.get? a = some o := (I.hok a _ hd).1
    rw [ho] at ho'
    cases ho'
    rw [hod] at hdt
    cases hdt
    have hsz : es.size = ks.length := by rw [← Array.length_toList]; exact (Paired.length en).symm
    obtain ⟨⟨x, v⟩, hkv⟩ : ∃ p, ks[i]? = some p := ⟨ks[i], List.getElem?_eq_getElem hi⟩
    obtain ⟨e, he, r1, _⟩ := paired_get en hkv
    rw [Array.getElem?_toList] at he
    refine next_key_item st ho hod hsz he fun h' st' sb => ?_
    have I1 : Inv X pins σ H { s with heap := h' } := I.turned (t' := s.toks) (fun b ob hb e => (sb.2 b hb).trans e) f0 f1 f3 f4 f5
    obtain ⟨oi, e2, c, dd⟩ := id st'
    exact ⟨e.key, rfl, go_of (s := { s with heap := h' }) e2 c dd (by decide) ⟨x, H, I1, r1, ⟨rfl, v, hkv⟩, st', fun b hb => (hf b hb).1⟩⟩
  done := by
    intro X hP hw hK hc i pins s σ H E I hf st hg
    subst hP hw hK
    obtain ⟨hd, hi⟩ := hg
    obtain ⟨f0, f1, f2, f3, f4, f5⟩ := hf it (by simp)
    obtain ⟨o', es', ep', ho', hx, hdt, hs, hz, en⟩ := dct_raw I (.inr ⟨o, hd⟩) sh
    have ho : s.heap.get? a = some o := (I.hok a _ hd).1
    rw [ho] at ho'
    cases ho'
    rw [hod] at hdt
    cases hdt
    have hsz : es.size = ks.length := by rw [← Array.length_toList]; exact (Paired.length en).symm
    exact next_key_end (I.ok.hd hc) st ho hod hsz hi fun h' eb => ⟨rfl, I.turned (t' := s.toks) (fun b ob hb e => eb b ob hb e) f0 f1 f3 f4 f5⟩
  self := fun A i s Q E st h => by
    refine wpAny_pyIter_slot st.typeIs F.slot_dict_keyiterator_iter (wpAny_call_entry F.slot_dict_keyiterator_iter st.typeIs F.entry_dict_keyiterator_iter ?_ (F.args_dict_keyiterator_iter_1 _))
    show wpAny _ _ (ret (.ref it)) _ _ s
    exact wpAny_pure ⟨_, rfl, "dict_keyiterator", _, st.typeIs, F.slot_dict_keyiterator_next.lookup, h⟩
section
variable {X : Cx} {b : Bd} {W : WX} {tg : Expr} {x : PV.X}
def iKeyD (g : Wd) (td : TE) : TI := fun σ H R => td σ H fun x H1 => ∃ a o u kvs ks, x = .ref a ∧ H1 a = some (.frz o u) ∧ DSh g a u (List.map Prod.fst (kvs : List (D × D))) ks ∧ R (ItD a o u ks) H1
theorem pi_dictD {e : Expr} {td : TE} (he : PE X e td) : PI X tg e (iKeyD (wd X) td) := by
  refine ⟨fun pins s σ H R I h => ?_⟩
  refine thn (he.run pins s σ H _ I h) fun u s1 ⟨x, H1, I1, rx, a, o, w, kvs, ks, ex, hd, sh, q⟩ => ?_
  subst ex
  obtain rfl : u = Value.ref a := rx
  obtain ⟨o', es, ep, ho', hx, hdt, hs, hz, en⟩ := dct_raw I1 (.inr ⟨o, hd⟩) sh
  have ho : s1.heap.get? a = some o := (I1.hok a _ hd).1
  rw [ho] at ho'
  cases ho'
  have hsz : es.size = ks.length := by rw [← Array.length_toList]; exact (Paired.length en).symm
  refine iter_keys hs ho hx hdt (pi_one (tk := s1.toks) I1 _ (turn_dict _ sh hdt) ⟨_, Heap.get?_push_size _ rfl, rfl, ?_⟩ q)
  rw [hsz] <;> rfl
theorem wk_dict {g : Wd} {N : Addr → Prop} {H1 : Hp} {a : Addr} {o : Obj} {u : HO} {kvs : List (D × D)} {ks : List (V × V)} (hd : H1 a = some (.frz o u)) (r : RepKs g H1 kvs ks) : Wk g N H1 (ItD a o u ks) (kvs.map (·.1)) := by
  have rk := r.keys
  refine ⟨fun i H d k f e => ?_, fun i H k f e => ⟨k.f _ _ _ hd, by have := rk.length; rw [List.length_map] at this; rw [this]; exact e⟩⟩
  obtain ⟨v, ev, rv⟩ := rk.getD e
  rw [List.getElem?_map] at ev
  obtain ⟨p, hp, rfl⟩ := Option.map_eq_some_iff.mp ev
  refine ⟨⟨k.f _ _ _ hd, (List.getElem?_eq_some_iff.mp hp).1⟩, fun x H' y => ?_⟩
  obtain ⟨rfl, w, y⟩ := y
  rw [hp] at y
  cases y
  exact ⟨same_refl _, Rep.mono k d rv⟩
/-- for k in d, a dict that is a value -/
theorem pEachD {l : Expr} (cn : Cn X b W) (hp : isPlace x = false) (ha : PE X l (tR b W false x)) : PI X tg l (tI b W .eachD [x]) := by
  refine ⟨fun pins s σ H R I h => ?_⟩
  refine (pi_dictD ha).run pins s σ H R I ?_
  obtain ⟨H0, M, B, ρ, G, q⟩ := h
  refine ⟨H0, M, B, ρ, G, ?_⟩
  rw [evOs_val hp] at q
  cases h1 : evE b.pg b.C x ρ with
  | bad => rw [h1] at q; exact q
  | exc c d ρ' => rw [h1] at q; exact q
  | ok d ρ1 =>
    rw [h1] at q
    have e0 : (evOs b.pg b.C [] ρ1).bind (fun os ρ2 => PV.R.ok (Sum.inl d :: os) ρ2) = PV.R.ok [Sum.inl d] ρ1 := by rw [evOs]; rfl
    have q : (match (evOs b.pg b.C [] ρ1).bind (fun os ρ2 => PV.R.ok (Sum.inl d :: os) ρ2) with
      | .ok os ρ1 => ∃ ds items, see ρ1 os = some ds ∧ srcOf .eachD ds = some items ∧
          ∀ J H', Kept H H' → Stt b.g b.T b.ks H0 M B H' σ ρ1 → Wk b.g (OwnAt b.ks σ (hide ρ1 (lentOf [x]))) H' J items → R J H'
      | .exc c d ρ' => ∀ cls dd H', Kept H H' → Stt b.g b.T b.ks H0 M B H' σ ρ' → ExR b.g b.EC H' c d cls dd → W cls dd σ H'
      | .bad => False) := q
    rw [e0] at q
    obtain ⟨ds, items, hs, hi, k⟩ := q
    have : ds = [d] := by
      have hs : some [d] = some ds := hs
      exact (Option.some.inj hs).symm
    subst this
    intro v H1 k1 G1 r1
    obtain ⟨kvs, rfl⟩ : ∃ kvs, d = .dict kvs := by
      cases d <;> first
        | exact ⟨_, rfl⟩
        | (have hi : (none : Option (List D)) = some items := hi
           cases hi)
    have hi : some (kvs.map (·.1)) = some items := hi
    cases hi
    have r2 := r1.old
    rw [Rep] at r2
    obtain ⟨a, o, u, ks, rfl, hd, sh, rk⟩ := r2
    refine ⟨a, o, u, kvs, ks, rfl, hd, ?_, k _ _ k1 G1 (wk_dict hd rk)⟩
    rw [← cn.g]
    exact sh
end
end PV

set_option maxHeartbeats 4000000
/-! PV29: one's own or a lent dict looked at as a value while an expression runs; list(d.items()). -/
namespace PV
open PySem L2
section
variable {g : Wd} {H H' : Hp}
mutual
theorem flat_rep (k1 : ∀ a xs, H a = some (.tup xs) → H' a = some (.tup xs)) (k2 : ∀ a o xs, H a = some (.frz o (.tup xs)) → H' a = some (.frz o (.tup xs))) : ∀ (d : D) {v : V}, flatD d = true → Rep g H d v → Rep g H' d v
  | .none, v, _, r => by rw [Rep] at r ⊢; exact r
  | .bool _, v, _, r => by rw [Rep] at r ⊢; exact r
  | .int _, v, _, r => by rw [Rep] at r ⊢; exact r
  | .str _, v, _, r => by rw [Rep] at r ⊢; exact r
  | .tuple ds, v, h, r => by
    rw [Rep] at r ⊢
    obtain ⟨a, vs, e, s, r⟩ := r
    refine ⟨a, vs, e, ?_, flats_rep k1 k2 ds h r⟩
    rcases s with (s | ⟨o, s⟩) | s
    · exact .inl (.inl (k1 _ _ s))
    · exact .inl (.inr ⟨o, k2 _ _ _ s⟩)
    · exact .inr s
  | .list _, v, h, _ => by cases h
  | .dict _, v, h, _ => by cases h
theorem flats_rep (k1 : ∀ a xs, H a = some (.tup xs) → H' a = some (.tup xs)) (k2 : ∀ a o xs, H a = some (.frz o (.tup xs)) → H' a = some (.frz o (.tup xs))) : ∀ (ds : List D) {vs : List V}, flatDs ds = true → Reps g H ds vs → Reps g H' ds vs
  | [], vs, _, r => by rw [Reps] at r ⊢; exact r
  | d :: ds, vs, h, r => by
    rw [Reps] at r ⊢
    obtain ⟨v, t, e, r1, r2⟩ := r
    have h : (flatD d && flatDs ds) = true := h
    rw [Bool.and_eq_true] at h
    exact ⟨v, t, e, flat_rep k1 k2 d h.1 r1, flats_rep k1 k2 ds h.2 r2⟩
end
theorem flat_low {d : D} (h : flatD d = true) : isTopD d = false := by cases d <;> first | rfl | cases h
end
/-- all of one's own slots but i stand in hs -/
def ownIn (i : Nat) (hs : List Nat) : Nat → List Kd → Bool
  | _, [] => true
  | j, k :: ks => (!isOwn (some k) || decide (j = i) || hs.contains j) && ownIn i hs (j + 1) ks
theorem ownIn_at {i : Nat} {hs : List Nat} : ∀ {ks : List Kd} {n : Nat}, ownIn i hs n ks = true → ∀ {j : Nat}, isOwn ks[j]? = true → n + j = i ∨ n + j ∈ hs
  | [], n, _, j, h => by simp [isOwn] at h
  | k :: ks, n, w, j, h => by
    have w : ((!isOwn (some k) || decide (n = i) || hs.contains n) && ownIn i hs (n + 1) ks) = true := w
    rw [Bool.and_eq_true] at w
    cases j with
    | zero =>
      have h : isOwn (some k) = true := h
      rw [h] at w
      have w1 := w.1
      rw [Bool.not_true, Bool.false_or, Bool.or_eq_true, decide_eq_true_eq] at w1
      rcases w1 with z | z
      · exact .inl z
      · exact .inr (by simpa using z)
    | succ j =>
      have := ownIn_at w.2 (j := j) h
      rw [show n + 1 + j = n + (j + 1) by omega] at this
      exact this
section
variable {g : Wd} {T : List (Addr × Str)} {ks : List Kd} {H0 H Hl H' : Hp} {M : Addr → Prop} {B : Lent} {σ : L2.St} {ρ ρ' : Rho}
/-- a look at slot i as a value -/
theorem Stt.view {i : Nat} {hs : List Nat} {d : D} {v : V} (G : Stt g T ks H0 M B H σ ρ) (hi : i < ks.length) (e : ρ[i]? = some (some d)) (es : σ[i]? = some (some v)) (r : Rep g Hl d v) (k : Kept H Hl)
    (tb : ∀ q d', B q → Top g H q d' → Rep g Hl d' (.ref q) ∨ Top g Hl q d') (tabs : LamX.Tabs T Hl) (hl : ρ'.length = ρ.length) (w : ∀ (j : Nat) (d : D), ρ'[j]? = some (some d) → ρ[j]? = some (some d) ∧ (isOwn ks[j]? = true → j = i)) :
    Stt g T (ks.set i .val) Hl (fun _ => False) B Hl σ ρ' := by
  have kne : ∀ {j : Nat}, i ≠ j → (ks.set i Kd.val)[j]? = ks[j]? := fun h => List.getElem?_set_ne h
  have ksm : (ks.set i Kd.val)[i]? = some .val := List.getElem?_set_self hi
  have noOwn : ∀ {j : Nat} {d' : D}, ρ'[j]? = some (some d') → isOwn (ks.set i Kd.val)[j]? = true → False := fun {j d'} h1 h2 => by
    by_cases q : i = j
    · subst q
      rw [ksm] at h2
      cases h2
    · rw [kne q] at h2
      exact q ((w j d' h1).2 h2).symm
  refine ⟨hl.trans G.len, fun a o h _ _ => h, fun j d' h1 h2 => ?_, fun j d' h1 h2 => ?_, fun j d' h1 h2 => (noOwn h1 h2).elim, fun j l d1 d2 p hne h1 h2 h3 => (noOwn h1 h3).elim, fun j d' h => ?_, fun p hp n => G.bh p hp (k.d p n), fun j d' u h => ?_, tabs, fun a ps h => ⟨ps, h⟩⟩
  · by_cases q : i = j
    · subst q
      have := (w i d' h1).1
      rw [e] at this
      cases this
      exact ⟨v, es, r⟩
    · obtain ⟨u, e1, r1⟩ := G.val j d' (w j d' h1).1 (by rw [← kne q]; exact h2)
      exact ⟨u, e1, r1.mono k⟩
  · by_cases q : i = j
    · subst q
      rw [ksm] at h2
      cases h2
    · exact G.bor j d' (w j d' h1).1 (by rw [← kne q]; exact h2)
  · by_cases q : i = j
    · subst q
      exact ⟨.val, ksm⟩
    · obtain ⟨x, hx⟩ := G.kinds j d' (w j d' h).1
      exact ⟨x, by rw [kne q]; exact hx⟩
  · rcases G.bsl j d' u h with z | ⟨q, eq, t, bq⟩
    · exact .inl (z.mono k)
    · rcases tb q d' bq t with z | z
      · exact .inl (by rw [eq]; exact z)
      · exact .inr ⟨q, eq, z, bq⟩
/-- behind it -/
theorem Stt.behind (G : Stt g T ks H0 M B H σ ρ) (k : Kept H H') (keep : ∀ a o, H a = some o → (∀ ps, o ≠ .tbl ps) → H' a = some o) (tabs : LamX.Tabs T H') (frT : ∀ a ps, H a = some (.tbl ps) → ∃ ps', H' a = some (.tbl ps')) : Stt g T ks H0 M B H' σ ρ := by
  have stay : ∀ {q : Addr} {d : D}, Top g H q d → Top g H' q d := fun {q d} t => t.stay k fun o h => keep q o h fun ps z => t.code.2 ps (by rw [h, z])
  refine ⟨G.len, fun a o h n nt => keep a o (G.frame a o h n nt) nt, fun i d h1 h2 => ?_, G.bor, fun i d h1 h2 => ?_, G.apart, G.kinds, fun p hp n => G.bh p hp (k.d p n), fun i d v h => ?_, tabs, fun a ps h => let ⟨ps', z⟩ := G.frT a ps h; frT a ps' z⟩
  · obtain ⟨v, e, r⟩ := G.val i d h1 h2
    exact ⟨v, e, r.mono k⟩
  · obtain ⟨p, e, t, m⟩ := G.own i d h1 h2
    exact ⟨p, e, stay t, m⟩
  · rcases G.bsl i d v h with r | ⟨p, e2, t, b⟩
    · exact .inl (r.mono k)
    · exact .inr ⟨p, e2, stay t, b⟩
end
section
variable {X : Cx} {b : Bd} {W : WX} {nw : Bool} {e : Expr} {x : PV.X} {i : Nat} {hs : List Nat} {pos : Pos}
theorem wipe_at {ρ : Rho} {hs : List Nat} {j : Nat} {d : D} (h : (wipeR ρ hs)[j]? = some (some d)) : ρ[j]? = some (some d) ∧ j ∉ hs := by
  induction hs with
  | nil => exact ⟨h, by simp⟩
  | cons a hs ih =>
    have h : ((wipeR ρ hs).set a none)[j]? = some (some d) := h
    obtain ⟨h1, h2⟩ := set_none h
    obtain ⟨h3, h4⟩ := ih h1
    exact ⟨h3, fun z => (List.mem_cons.mp z).elim (fun q => h2 q) h4⟩
theorem wipe_len2 {ρ : Rho} : ∀ hs : List Nat, (wipeR ρ hs).length = ρ.length
  | [] => rfl
  | a :: hs => by
    show ((wipeR ρ hs).set a none).length = _
    rw [List.length_set, wipe_len2 hs]
theorem eLk (cn : Cn X b W) (i : Nat) (ho : ownIn i hs 0 b.ks = true) (hi : b.ks[i]? = some .own ∨ b.ks[i]? = some .inn ∨ b.ks[i]? = some .bor) (he : Cn X (b.zap i) W → PE X e (tR (b.zap i) W false x)) : PE X e (tR b W nw (.lk i hs x)) := by
  refine ⟨fun pins s σ H Q I q => ?_⟩
  obtain ⟨H0, M, B, ρ, G, q⟩ := q
  rw [evE] at q
  rcases slot_cases (ρ := ρ) i with ⟨d, e1⟩ | e1
  · simp only [e1] at q
    have il : i < b.ks.length := by rcases hi with z | z | z <;> exact (List.getElem?_eq_some_iff.mp z).1
    have w : ∀ (j : Nat) (d : D), (wipeR ρ hs)[j]? = some (some d) → ρ[j]? = some (some d) ∧ (isOwn b.ks[j]? = true → j = i) := fun j d h => by
      obtain ⟨h1, h2⟩ := wipe_at h
      refine ⟨h1, fun z => ?_⟩
      have := ownIn_at ho z
      rw [Nat.zero_add] at this
      exact this.resolve_right h2
    cases hx : evE b.pg b.C x (wipeR ρ hs) with
    | bad => rw [hx] at q; exact q.elim
    | exc c d ρ' => rw [hx] at q; exact q.elim
    | ok d1 ρ1 =>
      rw [hx] at q
      by_cases hf : flatD d1 = true
      · simp only [hf, if_true] at q
        have fin : ∀ v H', Kept H H' → Stt b.g b.T b.ks H0 M B H' σ ρ → Rep b.g H' d1 v → Q v H' := fun v H' k G' r => q v H' k G' (RR.low (flat_low hf) r)
        have locked : ∀ p, σ[i]? = some (some (.ref p)) → Top b.g H p d → wpAny (model X.prog X.w) X.A (eval e X.env) (EP X pins σ Q) X.xe s := fun p es t => by
          have tc := t.code
          obtain ⟨u, eu, mu, rp⟩ := t.freeze
          refine (pe_lock (he (cn.zap i))).run pins s σ H Q I ⟨p, u, eu, mu, fun od => ?_⟩
          have kl : Kept H (upd H p (.frz od u)) := Kept.put (by rw [eu]; exact mu)
          have G2 := G.view (Hl := upd H p (.frz od u)) (ρ' := wipeR ρ hs) (hs := hs) il e1 es (rp od) kl (fun q d' bq t' => by
            by_cases z : q = p
            · subst z
              obtain ⟨u', eu', mu', rp'⟩ := t'.freeze
              rw [eu] at eu'
              cases eu'
              exact .inl (rp' od)
            · exact .inr (t'.mono kl (upd_ne z))) (tabs_upd G.tabs tc) (wipe_len2 hs) w
          refine ⟨_, _, _, _, G2, ?_⟩
          show aftE (b.zap i) W false _ _ _ σ _ _ (evE b.pg b.C x (wipeR ρ hs))
          rw [hx]
          intro v H1 k1 G3 r
          have r := r.old
          have fr : ∀ a o, (upd H p (.frz od u)) a = some o → (∀ ps, o ≠ .tbl ps) → H1 a = some o := fun a o h nt => G3.frame a o h (fun z => z) nt
          have hp : H1 p = some (.frz od u) := fr p _ upd_same (fun ps z => nomatch z)
          have neT : ∀ {a : Addr} {o : HO}, H a = some o → ¬ Mut (some o) → a ≠ p := fun {a o} h nm z => by
            rw [z, eu] at h
            cases h
            exact nm mu
          have kk : Kept H (upd H1 p u) := by
            refine ⟨fun a xs h => ?_, fun a o x h => ?_, fun a h => kl.d a (k1.d a (upd_none h))⟩
            · rw [upd_ne (neT h fun z => z)]; exact k1.t _ _ (kl.t _ _ h)
            · rw [upd_ne (neT h fun z => z)]; exact k1.f _ _ _ (kl.f _ _ _ h)
          refine ⟨hp, fin v (upd H1 p u) kk (G.behind kk (fun a o h nt => ?_) (tabs_upd G3.tabs ⟨fun q z => ?_, fun ps z => ?_⟩) fun a ps h => ?_) (flat_rep (fun a xs h => ?_) (fun a o xs h => ?_) d1 hf r)⟩
          · by_cases z : a = p
            · subst z
              rw [upd_same, ← h, eu]
            · rw [upd_ne z]
              exact fr a o (by rw [upd_ne z]; exact h) nt
          · rw [hp] at z; cases z
          · rw [hp] at z; cases z
          · have ne : a ≠ p := fun z => tc.2 ps (by rw [← z]; exact h)
            obtain ⟨ps', z⟩ := G3.frT a ps (by rw [upd_ne ne]; exact h)
            exact ⟨ps', by rw [upd_ne ne]; exact z⟩
          · by_cases z : a = p
            · rw [z, hp] at h; cases h
            · rw [upd_ne z]; exact h
          · by_cases z : a = p
            · rw [z, hp] at h
              cases h
              exact mu.elim
            · rw [upd_ne z]; exact h
        have own : isOwn b.ks[i]? = true → wpAny (model X.prog X.w) X.A (eval e X.env) (EP X pins σ Q) X.xe s := fun ho => by
          obtain ⟨p, e2, t, _⟩ := G.own i d e1 ho
          exact locked p e2 t
        rcases hi with z | z | z
        · exact own (by rw [z]; rfl)
        · exact own (by rw [z]; rfl)
        · obtain ⟨v, es, bs⟩ := G.bor i d e1 z
          rcases G.bsl i d v bs with r | ⟨p, e2, t, _⟩
          · refine (he (cn.zap i)).run pins s σ H Q I ⟨H, _, B, wipeR ρ hs, G.view (Hl := H) (hs := hs) il e1 es r (Kept.refl H) (fun q d' bq t => .inr t) G.tabs (wipe_len2 hs) w, ?_⟩
            show aftE (b.zap i) W false _ _ _ σ _ _ (evE b.pg b.C x (wipeR ρ hs))
            rw [hx]
            intro v1 H1 k1 G3 r1
            exact fin v1 H1 k1 (G.behind k1 (fun a o h nt => G3.frame a o h (fun z => z) nt) G3.tabs G3.frT) r1.old
          · exact locked p (by rw [← e2]; exact es) t
      · simp only [hf, if_false, Bool.false_eq_true] at q
        exact q.elim
  · split at q
    · rename_i h; exact absurd h (e1 _)
    · exact q.elim
theorem RepKs.pairs {g : Wd} {H' : Hp} : ∀ {kvs : List (D × D)} {l : List (Key × V)} {ts : List Addr}, RepKs g H' kvs (l.map fun p => (kV p.1, p.2)) → Paired (fun (t : Addr) (q : Key × V) => H' t = some (.tup [kV q.1, q.2])) ts l → Reps g H' (kvs.map fun p => .tuple [p.1, p.2]) (ts.map V.ref)
  | [], [], _, _, h => by cases h; exact .nil
  | [], _ :: _, _, r, _ => by rw [RepKs] at r; cases r
  | (a, c) :: kvs, [], _, r, _ => by
    rw [RepKs] at r
    obtain ⟨x, y, t, e, _⟩ := r
    cases e
  | (a, c) :: kvs, (k, v) :: l, _, r, h => by
    cases h with
    | cons h1 h2 =>
      rw [RepKs] at r
      obtain ⟨x, y, t, e, r1, r2, r3⟩ := r
      have e : (kV k, v) :: l.map (fun p => (kV p.1, p.2)) = (x, y) :: t := e
      cases e
      refine .cons ?_ (RepKs.pairs r3 h2)
      rw [Rep]
      exact ⟨_, _, rfl, .inl (.inl h1), .cons r1 (.cons r2 .nil)⟩
/-- list(d.items()) of one's own dict -/
theorem eLitems {p apos cpos : Pos} (cn : Cn X b W) (hk : isOwn b.ks[i]? = true) (hg : Gl X "list") (hm : X.mg "list" = none) (hv : bootBuiltins "list" = some (.type "list")) (ha : PE X e (tO b W (.own i))) (hbase : attributeBase e "items" X.env (eval e X.env) = eval e X.env := by rfl) (hline : (apos.endLine == cpos.line) = true := by rfl)
    (hs : starEach [.Call (.Attribute e "items" apos) [] [] cpos] X.env = (false, eval (.Call (.Attribute e "items" apos) [] [] cpos) X.env) :: starEach [] X.env := by rfl) :
    PE X (.Call (.Name "list" p) [.Call (.Attribute e "items" apos) [] [] cpos] [] pos) (tR b W true (.op .ditems [.own i])) := by
  refine PV.PE.imp (LiI.pe_listItems cn.calm ha hg hm hv hbase hline hs) fun σ H Q q => ?_
  obtain ⟨H0, M, B, ρ, G, q⟩ := q
  rw [evE, evOs] at q
  rcases slot_cases (ρ := ρ) i with ⟨d, e1⟩ | e1
  · simp only [e1, evOs] at q
    obtain ⟨a, e2, t, m, nb⟩ := G.own i d e1 hk
    have q : aftE b W true H0 M B σ H Q (match see ρ [.inr i] with | some ds => (match prim .ditems ds with | some d => .ok d ρ | none => .bad) | none => .bad) := q
    have es : see ρ [.inr i] = some [d] := by simp only [see, seeO, e1]
    rw [es] at q
    cases d with
    | dict kvs =>
      have q : aftE b W true H0 M B σ H Q (match (if fitsLn kvs.length && kvs.all (fun p => keyKd p.1 != 2) then some (PyData.list (kvs.map fun p => .tuple [p.1, p.2])) else none) with | some d => .ok d ρ | none => .bad) := q
      by_cases hc : (fitsLn kvs.length && kvs.all (fun p => keyKd p.1 != 2)) = true
      · rw [if_pos hc] at q
        rw [Bool.and_eq_true] at hc
        obtain ⟨u, ks, eu, sh, rk⟩ := t
        refine ⟨.ref a, e2, a, ?_⟩
        rcases sh with ⟨l, rfl, rfl⟩ | ⟨xs, hne, rfl, _, em, hkd⟩
        · refine ⟨l, rfl, eu, fun H' p ts hk2 hp hts hpt hl hpair => ?_⟩
          have sm : Same H H' := hk2
          refine q (.ref p) H' (Kept.of_same sm) (G.same sm) (RR.newTop (Kept.refl H) G hp ?_)
          exact ⟨ts.map V.ref, hl, RepKs.pairs (RepKs.mono (Kept.of_same sm) kvs rk) hpair⟩
        · exfalso
          obtain ⟨x, xs', rfl⟩ := List.exists_cons_of_ne_nil hne.1
          have : kvs ≠ [] := fun z => by subst z; cases em
          obtain ⟨y, ys, rfl⟩ := List.exists_cons_of_ne_nil this
          have h1 := hkd y.1 (by simp)
          have h2 := List.all_eq_true.mp hc.2 y (by simp)
          rw [h1] at h2
          cases h2
      · rw [if_neg hc] at q
        exact q.elim
    | list ds => exact (show False from q).elim
    | _ => exact (show False from t).elim
  · split at q
    · rename_i h; exact absurd h (e1 _)
    · exact q.elim
end
end PV

set_option maxHeartbeats 4000000
/-! PW1: plain facts for the laws: order of data, sorted lists, the evaluator's loops. -/
namespace PV
open PySem

/-! ### the order of data -/
theorem lt_irr (d : D) : PySem.W.dataLt d d = false := PyProof.Rows.lex_irrefl _
theorem lt_tr {a b c : D} (h1 : PySem.W.dataLt a b = true) (h2 : PySem.W.dataLt b c = true) : PySem.W.dataLt a c = true := PyProof.Rows.lex_trans _ _ _ h1 h2
theorem lt_as {a b : D} (h1 : PySem.W.dataLt a b = true) : PySem.W.dataLt b a = false := by
  cases h : PySem.W.dataLt b a with
  | false => rfl
  | true => have := lt_tr h1 h; rw [lt_irr] at this; exact absurd this (by decide)
/-- kinds of data -/
inductive Ty where
  | int | str | seq (t : Ty) | pair (a b : Ty)
def Ty.dep : Ty → Nat
  | .int => 0
  | .str => 0
  | .seq t => t.dep + 1
  | .pair a b => max a.dep b.dep + 1
def isT : Ty → D → Bool
  | .int, .int _ => true
  | .str, .str _ => true
  | .seq t, .tuple ds => ds.all (isT t)
  | .pair a b, .tuple ds => (match ds with
    | x :: y :: [] => isT a x && isT b y
    | _ => false)
  | _, _ => false
theorem isT_int {d : D} (h : isT .int d = true) : ∃ i, d = .int i := by
  cases d with
  | int i => exact ⟨i, rfl⟩
  | _ => simp [isT] at h
theorem isT_str {d : D} (h : isT .str d = true) : ∃ i, d = .str i := by
  cases d with
  | str i => exact ⟨i, rfl⟩
  | _ => simp [isT] at h
theorem isT_seq {t : Ty} {d : D} (h : isT (.seq t) d = true) : ∃ ds, d = .tuple ds ∧ ∀ x ∈ ds, isT t x = true := by
  cases d with
  | tuple ds => exact ⟨ds, rfl, by simpa [isT] using h⟩
  | _ => simp [isT] at h
theorem isT_pair {a b : Ty} {d : D} (h : isT (.pair a b) d = true) : ∃ x y, d = .tuple [x, y] ∧ isT a x = true ∧ isT b y = true := by
  cases d with
  | tuple ds =>
    match ds, h with
    | [], h => simp [isT] at h
    | [_], h => simp [isT] at h
    | [x, y], h =>
      have h : (isT a x && isT b y) = true := h
      rw [Bool.and_eq_true] at h
      exact ⟨x, y, rfl, h.1, h.2⟩
    | _ :: _ :: _ :: _, h => simp [isT] at h
  | _ => simp [isT] at h
theorem isT_mk_seq {t : Ty} {ds : List D} (h : ∀ x ∈ ds, isT t x = true) : isT (.seq t) (.tuple ds) = true := by simpa [isT] using h
theorem isT_mk_pair {a b : Ty} {x y : D} (h1 : isT a x = true) (h2 : isT b y = true) : isT (.pair a b) (.tuple [x, y]) = true := by simp [isT, h1, h2]
theorem alikeAll_of {t : Ty} (ih : ∀ x y, isT t x = true → isT t y = true → PySem.W.alike x y = true) : ∀ xs ys : List D, (∀ x ∈ xs, isT t x = true) → (∀ y ∈ ys, isT t y = true) → PySem.W.alikeAll xs ys = true
  | [], _, _, _ => by rw [PySem.W.alikeAll]
  | _ :: _, [], _, _ => by rw [PySem.W.alikeAll]
  | x :: xs, y :: ys, h1, h2 => by
    rw [PySem.W.alikeAll, ih x y (h1 x (by simp)) (h2 y (by simp)), alikeAll_of ih xs ys (fun z hz => h1 z (by simp [hz])) (fun z hz => h2 z (by simp [hz]))]
    rfl
theorem isT_alike : ∀ (t : Ty) (x y : D), isT t x = true → isT t y = true → PySem.W.alike x y = true
  | .int, x, y, h1, h2 => by
    obtain ⟨i, rfl⟩ := isT_int h1
    obtain ⟨j, rfl⟩ := isT_int h2
    simp only [PySem.W.alike]
  | .str, x, y, h1, h2 => by
    obtain ⟨i, rfl⟩ := isT_str h1
    obtain ⟨j, rfl⟩ := isT_str h2
    simp only [PySem.W.alike]
  | .seq t, x, y, h1, h2 => by
    obtain ⟨xs, rfl, q1⟩ := isT_seq h1
    obtain ⟨ys, rfl, q2⟩ := isT_seq h2
    simp only [PySem.W.alike]
    exact alikeAll_of (isT_alike t) xs ys q1 q2
  | .pair a b, x, y, h1, h2 => by
    obtain ⟨x1, x2, rfl, q1, q2⟩ := isT_pair h1
    obtain ⟨y1, y2, rfl, q3, q4⟩ := isT_pair h2
    simp only [PySem.W.alike, PySem.W.alikeAll, isT_alike a x1 y1 q1 q3, isT_alike b x2 y2 q2 q4]
    rfl
theorem eqvAll_iff {t : Ty} (ih : ∀ x y, isT t x = true → isT t y = true → (PyData.eqv x y = true ↔ x = y)) : ∀ xs ys : List D, (∀ x ∈ xs, isT t x = true) → (∀ y ∈ ys, isT t y = true) → (PyData.eqvAll xs ys = true ↔ xs = ys)
  | [], [], _, _ => by simp [PyData.eqvAll]
  | _ :: _, [], _, _ => by simp [PyData.eqvAll]
  | [], _ :: _, _, _ => by simp [PyData.eqvAll]
  | x :: xs, y :: ys, h1, h2 => by
    rw [PyData.eqvAll, Bool.and_eq_true, ih x y (h1 x (by simp)) (h2 y (by simp)), eqvAll_iff ih xs ys (fun z hz => h1 z (by simp [hz])) (fun z hz => h2 z (by simp [hz])), List.cons.injEq]
theorem isT_eqv : ∀ (t : Ty) (x y : D), isT t x = true → isT t y = true → (PyData.eqv x y = true ↔ x = y)
  | .int, x, y, h1, h2 => by
    obtain ⟨i, rfl⟩ := isT_int h1
    obtain ⟨j, rfl⟩ := isT_int h2
    simp [PyData.eqv]
  | .str, x, y, h1, h2 => by
    obtain ⟨i, rfl⟩ := isT_str h1
    obtain ⟨j, rfl⟩ := isT_str h2
    simp [PyData.eqv]
  | .seq t, x, y, h1, h2 => by
    obtain ⟨xs, rfl, q1⟩ := isT_seq h1
    obtain ⟨ys, rfl, q2⟩ := isT_seq h2
    rw [PyData.eqv, eqvAll_iff (isT_eqv t) xs ys q1 q2]
    simp
  | .pair a b, x, y, h1, h2 => by
    obtain ⟨x1, x2, rfl, q1, q2⟩ := isT_pair h1
    obtain ⟨y1, y2, rfl, q3, q4⟩ := isT_pair h2
    simp [PyData.eqv, PyData.eqvAll, isT_eqv a x1 y1 q1 q3, isT_eqv b x2 y2 q2 q4]
theorem plainAll_iff : ∀ xs : List D, PyData.plainAll xs = true ↔ ∀ x ∈ xs, x.plain = true
  | [] => by simp [PyData.plainAll]
  | x :: xs => by simp [PyData.plainAll, plainAll_iff xs]
theorem isT_plain : ∀ (t : Ty) (x : D), isT t x = true → x.plain = true
  | .int, x, h1 => by
    obtain ⟨i, rfl⟩ := isT_int h1
    simp [PyData.plain]
  | .str, x, h1 => by
    obtain ⟨i, rfl⟩ := isT_str h1
    simp [PyData.plain]
  | .seq t, x, h1 => by
    obtain ⟨xs, rfl, q1⟩ := isT_seq h1
    rw [PyData.plain, plainAll_iff]
    exact fun x hx => isT_plain t x (q1 x hx)
  | .pair a b, x, h1 => by
    obtain ⟨x1, x2, rfl, q1, q2⟩ := isT_pair h1
    simp [PyData.plain, PyData.plainAll, isT_plain a x1 q1, isT_plain b x2 q2]
theorem depthAll_le {n : Nat} : ∀ xs : List D, (∀ x ∈ xs, x.depth ≤ n) → PyData.depthAll xs ≤ n
  | [], _ => by simp [PyData.depthAll]
  | x :: xs, h => by
    rw [PyData.depthAll]
    exact Nat.max_le.mpr ⟨h x (by simp), depthAll_le xs fun z hz => h z (by simp [hz])⟩
theorem isT_depth : ∀ (t : Ty) (x : D), isT t x = true → x.depth ≤ t.dep
  | .int, x, h1 => by
    obtain ⟨i, rfl⟩ := isT_int h1
    simp [PyData.depth]
  | .str, x, h1 => by
    obtain ⟨i, rfl⟩ := isT_str h1
    simp [PyData.depth]
  | .seq t, x, h1 => by
    obtain ⟨xs, rfl, q1⟩ := isT_seq h1
    rw [PyData.depth, Ty.dep]
    exact Nat.succ_le_succ (depthAll_le xs fun x hx => isT_depth t x (q1 x hx))
  | .pair a b, x, h1 => by
    obtain ⟨x1, x2, rfl, q1, q2⟩ := isT_pair h1
    have e1 := isT_depth a x1 q1
    have e2 := isT_depth b x2 q2
    rw [PyData.depth, Ty.dep]
    refine Nat.succ_le_succ (depthAll_le _ fun z hz => ?_)
    rcases List.mem_cons.mp hz with rfl | hz
    · omega
    · rw [List.mem_singleton.mp hz]; omega
theorem isT_nn {t : Ty} {x : D} (h : isT t x = true) : notNone x = true := by
  cases x with
  | none => cases t <;> simp [isT] at h
  | _ => rfl
theorem isT_flat {t : Ty} {x : D} (h : isT t x = true) (ht : t.dep ≤ 60) : flatOk x = true := by
  unfold flatOk
  rw [isT_plain t x h, Bool.true_and, decide_eq_true_eq]
  exact Nat.le_trans (isT_depth t x h) ht
theorem isT_ord {t : Ty} {x y : D} (h1 : isT t x = true) (h2 : isT t y = true) (ht : t.dep ≤ 60) : ordOk x y = true := by
  unfold ordOk
  rw [isT_alike t x y h1 h2, isT_flat h1 ht, isT_plain t y h2, isT_nn h1]
  rfl
theorem isT_cmp {t : Ty} {x y : D} (h1 : isT t x = true) (h2 : isT t y = true) (ht : t.dep ≤ 60) : cmpOk x y = true := by
  unfold cmpOk
  rw [isT_flat h1 ht, isT_plain t y h2]
  rfl
theorem lt_tot {t : Ty} {x y : D} (h1 : isT t x = true) (h2 : isT t y = true) (hne : x ≠ y) : PySem.W.dataLt x y = true ∨ PySem.W.dataLt y x = true := by
  cases ha : PySem.W.dataLt x y with
  | true => exact .inl rfl
  | false =>
    cases hb : PySem.W.dataLt y x with
    | true => exact .inr rfl
    | false =>
      have e := PyProof.Rows.lex_total _ _ ha hb
      cases he : PyData.eqv x y with
      | true => exact absurd ((isT_eqv t x y h1 h2).mp he) hne
      | false =>
        have := (PySem.W.toks_eqv x y (isT_alike t x y h1 h2)).2 he
        have z := this [.inl 0] [.inl 1]
        rw [e, PySem.W.lex_pre] at z
        rw [PyProof.Rows.lex_irrefl] at z
        exact absurd z (by decide)

/-! ### sorted lists -/
section
variable {α : Type} {r : α → α → Prop}
theorem srt_sub (irr : ∀ x, ¬ r x x) (tr : ∀ x y z, r x y → r y z → r x z) : ∀ {b a : List α}, a.Pairwise r → b.Pairwise r → (∀ x ∈ a, x ∈ b) → a.Sublist b
  | [], a, _, _, h => by
    cases a with
    | nil => exact .slnil
    | cons x _ => exact absurd (h x (by simp)) (by simp)
  | y :: b, [], _, _, _ => List.nil_sublist _
  | y :: b, x :: a, ha, hb, h => by
    rw [List.pairwise_cons] at ha hb
    rcases List.mem_cons.mp (h x (by simp)) with e | e
    · subst e
      refine .cons_cons x (srt_sub irr tr ha.2 hb.2 fun z hz => ?_)
      rcases List.mem_cons.mp (h z (by simp [hz])) with e | e
      · subst e
        exact absurd (ha.1 z hz) (irr z)
      · exact e
    · have yx := hb.1 x e
      refine .cons y (srt_sub irr tr (List.pairwise_cons.mpr ha) hb.2 fun z hz => ?_)
      rcases List.mem_cons.mp (h z hz) with q | q
      · subst q
        rcases List.mem_cons.mp hz with w | w
        · subst w; exact absurd yx (irr z)
        · exact absurd (tr _ _ _ yx (ha.1 z w)) (irr z)
      · exact q
theorem srt_ext (irr : ∀ x, ¬ r x x) (tr : ∀ x y z, r x y → r y z → r x z) {a b : List α} (ha : a.Pairwise r) (hb : b.Pairwise r) (h : ∀ x, x ∈ a ↔ x ∈ b) : a = b :=
  have s1 := srt_sub irr tr ha hb fun x hx => (h x).mp hx
  have s2 := srt_sub irr tr hb ha fun x hx => (h x).mpr hx
  s1.eq_of_length (Nat.le_antisymm s1.length_le s2.length_le)
/-- the first ones that have no part ahead of them -/
def greedy (part : α → α → Bool) : List α → List α → List α
  | f, [] => f
  | f, x :: xs => if f.any (fun z => part z x) then greedy part f xs else greedy part (f ++ [x]) xs
theorem greedy_sub {part : α → α → Bool} {Pd : α → Prop} (irr : ∀ x, ¬ r x x) (tr : ∀ x y z, r x y → r y z → r x z) (prf : ∀ x, Pd x → part x x = true) (ptr : ∀ x y z, Pd x → Pd y → Pd z → part x y = true → part y z = true → part x z = true) {M L : List α} (h : M.Sublist L) :
    ∀ (f pm : List α), (∀ x ∈ L, Pd x) → (∀ x ∈ f, Pd x) → (∀ x ∈ pm, Pd x) → (∀ y ∈ pm, ∃ z ∈ f, part z y = true) → (∀ x ∈ L, x ∈ M ∨ ∃ y, (y ∈ pm ∨ (y ∈ M ∧ r y x)) ∧ part y x = true) → L.Pairwise r → greedy part f L = greedy part f M := by
  induction h with
  | slnil => intros; rfl
  | @cons M L x s ih =>
    intro f pm dL df dp hp hx hL
    rw [List.pairwise_cons] at hL
    have : f.any (fun z => part z x) = true := by
      rcases hx x (by simp) with q | ⟨y, q, p⟩
      · exact absurd (hL.1 x (s.subset q)) (irr x)
      · rcases q with q | ⟨q, rr⟩
        · obtain ⟨z, hz, pz⟩ := hp y q
          exact List.any_eq_true.mpr ⟨z, hz, ptr _ _ _ (df z hz) (dp y q) (dL x (by simp)) pz p⟩
        · exact absurd (tr _ _ _ rr (hL.1 y (s.subset q))) (irr y)
    show (if f.any (fun z => part z x) then greedy part f L else _) = _
    rw [if_pos this]
    exact ih f pm (fun z hz => dL z (by simp [hz])) df dp hp (fun z hz => hx z (by simp [hz])) hL.2
  | @cons_cons M L x s ih =>
    intro f pm dL df dp hp hx hL
    rw [List.pairwise_cons] at hL
    have dx := dL x (by simp)
    have step : ∀ f', (∀ z ∈ f', Pd z) → (∀ y ∈ x :: pm, ∃ z ∈ f', part z y = true) → greedy part f' L = greedy part f' M := fun f' df' h' => by
      refine ih f' (x :: pm) (fun z hz => dL z (by simp [hz])) df' (fun z hz => ?_) h' (fun z hz => ?_) hL.2
      · rcases List.mem_cons.mp hz with e | q
        · rw [e]; exact dx
        · exact dp z q
      rcases hx z (by simp [hz]) with q | ⟨y, q, p⟩
      · rcases List.mem_cons.mp q with e | q
        · exact .inr ⟨x, .inl (by simp), by rw [e]; exact prf x dx⟩
        · exact .inl q
      · refine .inr ⟨y, ?_, p⟩
        rcases q with q | ⟨q, rr⟩
        · exact .inl (by simp [q])
        · rcases List.mem_cons.mp q with e | q
          · exact .inl (by simp [e])
          · exact .inr ⟨q, rr⟩
    show (if f.any (fun z => part z x) then greedy part f L else greedy part (f ++ [x]) L) = (if f.any (fun z => part z x) then greedy part f M else greedy part (f ++ [x]) M)
    cases ha : f.any (fun z => part z x) with
    | true =>
      obtain ⟨z, hz, pz⟩ := List.any_eq_true.mp ha
      simp only [if_true]
      refine step f df fun y hy => ?_
      rcases List.mem_cons.mp hy with e | q
      · exact ⟨z, hz, by rw [e]; exact pz⟩
      · exact hp y q
    | false =>
      simp only [Bool.false_eq_true, if_false]
      refine step (f ++ [x]) (fun z hz => ?_) fun y hy => ?_
      · rcases List.mem_append.mp hz with q | q
        · exact df z q
        · rw [List.mem_singleton.mp q]; exact dx
      rcases List.mem_cons.mp hy with e | q
      · exact ⟨x, by simp, by rw [e]; exact prf x dx⟩
      · obtain ⟨z, hz, pz⟩ := hp y q
        exact ⟨z, by simp [hz], pz⟩
end
abbrev Srt (l : List D) : Prop := l.Pairwise fun a b => PySem.W.dataLt a b = true
theorem Srt.ext {a b : List D} (ha : Srt a) (hb : Srt b) (h : ∀ x, x ∈ a ↔ x ∈ b) : a = b :=
  srt_ext (r := fun a b => PySem.W.dataLt a b = true) (fun x h => by rw [lt_irr] at h; exact absurd h (by decide)) (fun _ _ _ => lt_tr) ha hb h
theorem Srt.sub {a b : List D} (ha : Srt a) (hb : Srt b) (h : ∀ x ∈ a, x ∈ b) : a.Sublist b :=
  srt_sub (r := fun a b => PySem.W.dataLt a b = true) (fun x h => by rw [lt_irr] at h; exact absurd h (by decide)) (fun _ _ _ => lt_tr) ha hb h

/-! ### putting one into a sorted list -/
def ins (x : D) (f : List D) : List D := f.take (f.filter fun z => PySem.W.dataLt z x).length ++ x :: f.drop (f.filter fun z => PySem.W.dataLt z x).length
theorem below_split {x : D} : ∀ {f : List D}, Srt f → (∀ z ∈ f, PySem.W.dataLt z x = true ∨ PySem.W.dataLt x z = true) →
    (∀ z ∈ f.take (f.filter fun z => PySem.W.dataLt z x).length, PySem.W.dataLt z x = true) ∧ ∀ z ∈ f.drop (f.filter fun z => PySem.W.dataLt z x).length, PySem.W.dataLt x z = true
  | [], _, _ => by simp
  | y :: f, h, c => by
    rw [Srt, List.pairwise_cons] at h
    rcases c y (by simp) with q | q
    · obtain ⟨a, b⟩ := below_split h.2 fun z hz => c z (by simp [hz])
      rw [List.filter_cons_of_pos (by simpa using q), List.length_cons, List.take_succ_cons, List.drop_succ_cons]
      refine ⟨fun z hz => ?_, b⟩
      rcases List.mem_cons.mp hz with e | hz
      · rw [e]; exact q
      · exact a z hz
    · have no : (y :: f).filter (fun z => PySem.W.dataLt z x) = [] := by
        rw [List.filter_eq_nil_iff]
        intro z hz
        have : PySem.W.dataLt x z = true := by
          rcases List.mem_cons.mp hz with e | hz
          · rw [e]; exact q
          · exact lt_tr q (h.1 z hz)
        rw [lt_as this]
        decide
      rw [no]
      simp only [List.length_nil, List.take_zero, List.drop_zero, List.not_mem_nil, false_implies, implies_true, true_and]
      intro z hz
      rcases List.mem_cons.mp hz with e | hz
      · rw [e]; exact q
      · exact lt_tr q (h.1 z hz)
theorem ins_srt {x : D} {f : List D} (h : Srt f) (c : ∀ z ∈ f, PySem.W.dataLt z x = true ∨ PySem.W.dataLt x z = true) : Srt (ins x f) := by
  obtain ⟨a, b⟩ := below_split h c
  unfold ins
  generalize (f.filter fun z => PySem.W.dataLt z x).length = k at a b ⊢
  have hs : Srt (f.take k ++ f.drop k) := by rw [List.take_append_drop]; exact h
  rw [Srt, List.pairwise_append] at hs ⊢
  refine ⟨hs.1, List.pairwise_cons.mpr ⟨b, hs.2.1⟩, fun y hy z hz => ?_⟩
  rcases List.mem_cons.mp hz with e | hz
  · rw [e]; exact a y hy
  · exact hs.2.2 y hy z hz
theorem mem_ins {x y : D} {f : List D} : y ∈ ins x f ↔ y = x ∨ y ∈ f := by
  unfold ins
  generalize (f.filter fun z => PySem.W.dataLt z x).length = k
  have : y ∈ f ↔ y ∈ f.take k ∨ y ∈ f.drop k := by rw [← List.mem_append, List.take_append_drop]
  rw [List.mem_append, List.mem_cons, this]
  constructor
  · rintro (h | h | h)
    · exact .inr (.inl h)
    · exact .inl h
    · exact .inr (.inr h)
  · rintro (h | h | h)
    · exact .inr (.inl h)
    · exact .inl h
    · exact .inr (.inr h)
theorem len_ins {x : D} {f : List D} : (ins x f).length = f.length + 1 := by
  unfold ins
  rw [List.length_append, List.length_cons, List.length_take, List.length_drop]
  have := List.length_filter_le (fun z => PySem.W.dataLt z x) f
  omega
end PV

set_option maxHeartbeats 4000000
/-! PW2: the evaluator, step by step: the rows by which a text's code is run, its loops. -/
namespace PV
open PySem

section
variable {pg : Pg} {C : Orc} {ρ : Rho} {as : List X} {xs : List S} {e a b c k : X} {i j : Nat} {o o' : Op}
theorem ev_non : evE pg C .non ρ = .ok .none ρ := by rw [evE]
theorem ev_bl {t : Bool} : evE pg C (.bl t) ρ = .ok (.bool t) ρ := by rw [evE]
theorem ev_int {n : Int} : evE pg C (.int n) ρ = .ok (.int n) ρ := by rw [evE]
theorem ev_str {s : Str} : evE pg C (.str s) ρ = .ok (.str s) ρ := by rw [evE]
theorem ew_var : evE pg C (.var i) ρ = (match ρ[i]? with | some (some d) => .ok d ρ | _ => .bad) := by rw [evE] <;> rfl
theorem ew_mv : evE pg C (.mv i) ρ = (match ρ[i]? with | some (some d) => .ok d (ρ.set i none) | _ => .bad) := by rw [evE] <;> rfl
theorem ev_tup : evE pg C (.tup as) ρ = (evEs pg C as ρ).bind fun ds ρ1 => if fitsLn ds.length then .ok (.tuple ds) ρ1 else .bad := by rw [evE]
theorem ev_lst : evE pg C (.lst as) ρ = (evEs pg C as ρ).bind fun ds ρ1 => if fitsLn ds.length then .ok (.list ds) ρ1 else .bad := by rw [evE]
def opR (o : Op) (ρ : Rho) (os : List O) : R D := match see ρ os with
  | some ds => match prim o ds with
    | some d => .ok d ρ
    | none => .bad
  | none => .bad
theorem ev_op : evE pg C (.op o as) ρ = (evOs pg C as ρ).bind fun os ρ1 => opR o ρ1 os := by rw [evE] <;> rfl
theorem ev_not : evE pg C (.not a) ρ = (asBool (evE pg C a ρ)).bind fun b ρ1 => .ok (.bool (!b)) ρ1 := by rw [evE]
theorem ev_ite : evE pg C (.ite c a b) ρ = (asBool (evE pg C c ρ)).bind fun t ρ1 => if t then evE pg C a ρ1 else evE pg C b ρ1 := by rw [evE]
def callO (pg : Pg) (C : Orc) (i : Nat) (as : List X) (ρ : Rho) (os : List O) : R D := match see ρ os with
    | some ds => callR (C i ds) (giveOf (kindsOf pg i) as) ρ
    | none => .bad
theorem ev_call : evE pg C (.call i as) ρ = (evOs pg C as ρ).bind fun os ρ1 => callO pg C i as ρ1 os := by rw [evE] <;> rfl
theorem ev_dic {ks es : List X} : evE pg C (.dic ks es) ρ = .ok (.dict []) ρ := by rw [evE]
theorem ev_and0 : evE pg C (.and [a]) ρ = evE pg C a ρ := by rw [evE, evAnd]
theorem ev_and1 : evE pg C (.and (a :: b :: as)) ρ = (asBool (evE pg C a ρ)).bind fun t ρ1 => if t then evE pg C (.and (b :: as)) ρ1 else .ok (.bool false) ρ1 := by rw [evE, evAnd]; simp only [evE]
theorem ev_or0 : evE pg C (.or [a]) ρ = evE pg C a ρ := by rw [evE, evOr]
theorem ev_or1 : evE pg C (.or (a :: b :: as)) ρ = (asBool (evE pg C a ρ)).bind fun t ρ1 => if t then .ok (.bool true) ρ1 else evE pg C (.or (b :: as)) ρ1 := by rw [evE, evOr]; simp only [evE]
theorem ev_chain : evE pg C (.chain o o' a b c) ρ = (evE pg C a ρ).bind fun x ρ1 => (evE pg C b ρ1).bind fun y ρ2 => (match prim o [x, y] with
    | some (.bool true) => (evE pg C c ρ2).bind fun z ρ3 => (match prim o' [y, z] with
      | some (.bool r) => .ok (.bool r) ρ3
      | _ => .bad)
    | some (.bool false) => .ok (.bool false) ρ2
    | _ => .bad) := by rw [evE] <;> rfl
theorem ev_es0 : evEs pg C [] ρ = .ok [] ρ := by rw [evEs]
theorem ev_es1 : evEs pg C (a :: as) ρ = (evE pg C a ρ).bind fun d ρ1 => (evEs pg C as ρ1).bind fun ds ρ2 => .ok (d :: ds) ρ2 := by rw [evEs]
theorem ev_os0 : evOs pg C [] ρ = .ok [] ρ := by rw [evOs]
theorem ev_osO : evOs pg C (.own i :: as) ρ = (match ρ[i]? with | some (some _) => (evOs pg C as ρ).bind fun os ρ1 => .ok (.inr i :: os) ρ1 | _ => .bad) := by rw [evOs] <;> rfl
theorem ev_osB : evOs pg C (.bor i :: as) ρ = (match ρ[i]? with | some (some _) => (evOs pg C as ρ).bind fun os ρ1 => .ok (.inr i :: os) ρ1 | _ => .bad) := by rw [evOs] <;> rfl
theorem ev_osV (h : isPlace a = false) : evOs pg C (a :: as) ρ = (evE pg C a ρ).bind fun d ρ1 => (evOs pg C as ρ1).bind fun os ρ2 => .ok (.inl d :: os) ρ2 := evOs_val h ρ
theorem os_non  : evOs pg C (.non :: as) ρ = (evE pg C .non ρ).bind fun d ρ1 => (evOs pg C as ρ1).bind fun os ρ2 => .ok (.inl d :: os) ρ2 := ev_osV rfl
theorem os_bl {t : Bool} : evOs pg C ((.bl t) :: as) ρ = (evE pg C (.bl t) ρ).bind fun d ρ1 => (evOs pg C as ρ1).bind fun os ρ2 => .ok (.inl d :: os) ρ2 := ev_osV rfl
theorem os_int {n : Int} : evOs pg C ((.int n) :: as) ρ = (evE pg C (.int n) ρ).bind fun d ρ1 => (evOs pg C as ρ1).bind fun os ρ2 => .ok (.inl d :: os) ρ2 := ev_osV rfl
theorem os_str {s : Str} : evOs pg C ((.str s) :: as) ρ = (evE pg C (.str s) ρ).bind fun d ρ1 => (evOs pg C as ρ1).bind fun os ρ2 => .ok (.inl d :: os) ρ2 := ev_osV rfl
theorem os_var  : evOs pg C ((.var i) :: as) ρ = (evE pg C (.var i) ρ).bind fun d ρ1 => (evOs pg C as ρ1).bind fun os ρ2 => .ok (.inl d :: os) ρ2 := ev_osV rfl
theorem os_mv  : evOs pg C ((.mv i) :: as) ρ = (evE pg C (.mv i) ρ).bind fun d ρ1 => (evOs pg C as ρ1).bind fun os ρ2 => .ok (.inl d :: os) ρ2 := ev_osV rfl
theorem os_tup {es : List X} : evOs pg C ((.tup es) :: as) ρ = (evE pg C (.tup es) ρ).bind fun d ρ1 => (evOs pg C as ρ1).bind fun os ρ2 => .ok (.inl d :: os) ρ2 := ev_osV rfl
theorem os_lst {es : List X} : evOs pg C ((.lst es) :: as) ρ = (evE pg C (.lst es) ρ).bind fun d ρ1 => (evOs pg C as ρ1).bind fun os ρ2 => .ok (.inl d :: os) ρ2 := ev_osV rfl
theorem os_op {es : List X} : evOs pg C ((.op o es) :: as) ρ = (evE pg C (.op o es) ρ).bind fun d ρ1 => (evOs pg C as ρ1).bind fun os ρ2 => .ok (.inl d :: os) ρ2 := ev_osV rfl
theorem os_ite  : evOs pg C ((.ite c a b) :: as) ρ = (evE pg C (.ite c a b) ρ).bind fun d ρ1 => (evOs pg C as ρ1).bind fun os ρ2 => .ok (.inl d :: os) ρ2 := ev_osV rfl
theorem os_call {es : List X} : evOs pg C ((.call i es) :: as) ρ = (evE pg C (.call i es) ρ).bind fun d ρ1 => (evOs pg C as ρ1).bind fun os ρ2 => .ok (.inl d :: os) ρ2 := ev_osV rfl
theorem os_not  : evOs pg C ((.not a) :: as) ρ = (evE pg C (.not a) ρ).bind fun d ρ1 => (evOs pg C as ρ1).bind fun os ρ2 => .ok (.inl d :: os) ρ2 := ev_osV rfl
theorem os_mm {m : Mo} {es : List X} : evOs pg C ((.mm m i es) :: as) ρ = (evE pg C (.mm m i es) ρ).bind fun d ρ1 => (evOs pg C as ρ1).bind fun os ρ2 => .ok (.inl d :: os) ρ2 := ev_osV rfl
theorem os_get {es : List X} : evOs pg C ((.get i es) :: as) ρ = (evE pg C (.get i es) ρ).bind fun d ρ1 => (evOs pg C as ρ1).bind fun os ρ2 => .ok (.inl d :: os) ρ2 := ev_osV rfl
theorem os_lc {tg : Tg} {sk : Sk} {es ifs : List X} {vs : List Nat} : evOs pg C (.lc e tg sk es ifs vs :: as) ρ = (evE pg C (.lc e tg sk es ifs vs) ρ).bind fun d ρ1 => (evOs pg C as ρ1).bind fun os ρ2 => .ok (.inl d :: os) ρ2 := ev_osV rfl
theorem os_dc {tg : Tg} {sk : Sk} {es ifs : List X} {vs : List Nat} : evOs pg C (.dc k e tg sk es ifs vs :: as) ρ = (evE pg C (.dc k e tg sk es ifs vs) ρ).bind fun d ρ1 => (evOs pg C as ρ1).bind fun os ρ2 => .ok (.inl d :: os) ρ2 := ev_osV rfl
theorem os_sortk {es : List X} : evOs pg C (.sortk es e :: as) ρ = (evE pg C (.sortk es e) ρ).bind fun d ρ1 => (evOs pg C as ρ1).bind fun os ρ2 => .ok (.inl d :: os) ρ2 := ev_osV rfl
theorem os_callk {pm : List Nat} {es : List X} : evOs pg C (.callk i pm es :: as) ρ = (evE pg C (.callk i pm es) ρ).bind fun d ρ1 => (evOs pg C as ρ1).bind fun os ρ2 => .ok (.inl d :: os) ρ2 := ev_osV rfl
theorem op_0 : opR o ρ [] = (match prim o [] with | some d => .ok d ρ | none => .bad) := rfl
theorem op_1 {x : O} {os : List O} : opR o ρ (x :: os) = (match see ρ (x :: os) with | some ds => (match prim o ds with | some d => .ok d ρ | none => .bad) | none => .bad) := rfl
theorem call_1 {x : O} {os : List O} : callO pg C i as ρ (x :: os) = (match see ρ (x :: os) with | some ds => callR (C i ds) (giveOf (kindsOf pg i) as) ρ | none => .bad) := rfl
theorem ev_if0 : evIf pg C [] ρ = .ok true ρ := by rw [evIf]
theorem ev_if1 : evIf pg C [a] ρ = asBool (evE pg C a ρ) := by rw [evIf]
theorem ev_mm {m : Mo} : evE pg C (.mm m i as) ρ = (match ρ[i]? with
    | some (some (.list _)) => (evEs pg C as ρ).bind fun ds ρ1 => (match ρ1[i]? with
      | some (some d) => (match meth m d ds with
        | some (r, d') => .ok r (ρ1.set i (some d'))
        | none => .bad)
      | _ => .bad)
    | _ => .bad) := by rw [evE] <;> rfl
theorem ev_get : evE pg C (.get i as) ρ = (match ρ[i]? with
    | some (some (.dict _)) => (evEs pg C as ρ).bind fun ds ρ1 => (match ρ1[i]? with
      | some (some d) => (match (match ds with
        | [k] => prim .dget [d, k]
        | [k, x] => prim .dget2 [d, k, x]
        | _ => none) with
        | some r => .ok r ρ1
        | none => .bad)
      | _ => .bad)
    | _ => .bad) := by rw [evE] <;> rfl
theorem b_ok {α β : Type} {x : α} {f : α → Rho → R β} : (R.ok x ρ).bind f = f x ρ := rfl
theorem t_ok {α : Type} {x : α} {f : α → Rho → SR} : (R.ok x ρ).then f = f x ρ := rfl
theorem ab_ok {t : Bool} : asBool (.ok (.bool t) ρ) = .ok t ρ := rfl
theorem ex_0 : exSs pg C [] ρ = .nx ρ := by rw [exSs]
theorem ex_1 {s : S} : exSs pg C (s :: xs) ρ = (match exS pg C s ρ with | .nx ρ1 => exSs pg C xs ρ1 | r => r) := by rw [exSs] <;> rfl
theorem ex_asg {tg : Tg} : exS pg C (.asg tg e) ρ = (evE pg C e ρ).then fun d ρ1 => setS tg d ρ1 := by rw [exS]
theorem ex_asgO : exS pg C (.asgO i e) ρ = (evE pg C e ρ).then fun d ρ1 => if isTopD d then .nx (ρ1.set i (some d)) else .bad := by rw [exS]
theorem ex_setI : exS pg C (.setI i k e) ρ = (evE pg C e ρ).then fun d ρ1 => (match ρ1[i]? with
    | some (some _) => (evE pg C k ρ1).then fun x ρ2 => (match ρ2[i]? with
      | some (some o) => (match putAt o x d with
        | some o' => .nx (ρ2.set i (some o'))
        | none => .bad)
      | _ => .bad)
    | _ => .bad) := by rw [exS] <;> rfl
theorem ex_aug : exS pg C (.aug i o e) ρ = (match ρ[i]? with
    | some (some x) => (evE pg C e ρ).then fun y ρ1 => (match augOp o x y with
      | some z => .nx (ρ1.set i (some z))
      | none => .bad)
    | _ => .bad) := by rw [exS] <;> rfl
theorem ex_augI : exS pg C (.augI i k o e) ρ = (match ρ[i]? with
    | some (some _) => (evE pg C k ρ).then fun x ρ1 => (match ρ1[i]? with
      | some (some l) => (match prim .idx [l, x] with
        | some y => (evE pg C e ρ1).then fun z ρ2 => (match augOp o y z with
          | some u => (match ρ2[i]? with
            | some (some l2) => (match putAt l2 x u with
              | some l3 => .nx (ρ2.set i (some l3))
              | none => .bad)
            | _ => .bad)
          | none => .bad)
        | none => .bad)
      | _ => .bad)
    | _ => .bad) := by rw [exS] <;> rfl
theorem ex_exp : exS pg C (.exp e) ρ = (evE pg C e ρ).then fun _ ρ1 => .nx ρ1 := by rw [exS]
theorem ex_ite {x y : List S} : exS pg C (.ite c x y) ρ = (asBool (evE pg C c ρ)).then fun t ρ1 => if t then exSs pg C x ρ1 else exSs pg C y ρ1 := by rw [exS]
theorem ex_ret : exS pg C (.ret e) ρ = (evE pg C e ρ).then fun d ρ1 => .ret d ρ1 := by rw [exS]
theorem ex_retO : exS pg C (.retO i) ρ = (match ρ[i]? with | some (some d) => .ret d (ρ.set i none) | _ => .bad) := by rw [exS] <;> rfl
theorem ex_retN : exS pg C .retN ρ = .ret .none ρ := by rw [exS]
theorem ex_brk : exS pg C .brk ρ = .brk ρ := by rw [exS]
theorem ex_cont : exS pg C .cont ρ = .cont ρ := by rw [exS]
theorem ex_pass : exS pg C .pass ρ = .nx ρ := by rw [exS]
/-- a call of a def of the text -/
theorem callF_at {n : Nat} {fi : Fi} {ds : List D} (h : pg.T[i]? = some fi) (hl : ds.length = fi.np) : callF pg (n + 1) i ds = endOf pg i (exSs pg (callF pg n) fi.body (startR fi ds)) := by
  show (match pg.T[i]? with
    | some fi => if ds.length = fi.np then endOf pg i (exSs pg (callF pg n) fi.body (startR fi ds)) else .bad
    | none => .bad) = _
  rw [h]
  simp only [hl, if_true]

/-! ### loops -/
theorem forL_nx' {f : Rho → SR} {tg : Tg} (I : List D → Rho → Prop) (all : List D) (st : ∀ (pre : List D) (d : D) (post : List D) (ρ : Rho), all = pre ++ d :: post → I pre ρ → ∃ ρ1 ρ2, setTg tg d ρ = some ρ1 ∧ (f ρ1 = .nx ρ2 ∨ f ρ1 = .cont ρ2) ∧ I (pre ++ [d]) ρ2) :
    ∀ (items pre : List D) (ρ : Rho), all = pre ++ items → I pre ρ → ∃ ρ', forL f tg items ρ = .nx ρ' ∧ I all ρ'
  | [], pre, ρ, e, h => ⟨ρ, rfl, by rw [e, List.append_nil]; exact h⟩
  | d :: ds, pre, ρ, e, h => by
    obtain ⟨ρ1, ρ2, h1, h2, h3⟩ := st pre d ds ρ e h
    obtain ⟨ρ', h4, h5⟩ := forL_nx' I all st ds (pre ++ [d]) ρ2 (by rw [e]; simp) h3
    refine ⟨ρ', ?_, h5⟩
    rw [← h4]
    rcases h2 with h2 | h2 <;> simp only [forL, h1, h2]
theorem forL_nx {f : Rho → SR} {tg : Tg} (I : List D → Rho → Prop) (items : List D) (ρ : Rho) (h : I [] ρ) (st : ∀ (pre : List D) (d : D) (post : List D) (ρ : Rho), items = pre ++ d :: post → I pre ρ → ∃ ρ1 ρ2, setTg tg d ρ = some ρ1 ∧ (f ρ1 = .nx ρ2 ∨ f ρ1 = .cont ρ2) ∧ I (pre ++ [d]) ρ2) : ∃ ρ', forL f tg items ρ = .nx ρ' ∧ I items ρ' :=
  forL_nx' I items st items [] ρ rfl h
/-- a loop that goes back with an answer at the first item of g -/
theorem forL_find {f : Rho → SR} {tg : Tg} (g : D → Bool) (r : D) (I : Rho → Prop) : ∀ (items : List D) (ρ : Rho), I ρ →
    (∀ (d : D) (ρ : Rho), d ∈ items → I ρ → ∃ ρ1 ρ2, setTg tg d ρ = some ρ1 ∧ (if g d = true then f ρ1 = .ret r ρ2 else f ρ1 = .nx ρ2 ∧ I ρ2)) → ∃ ρ', if items.any g = true then forL f tg items ρ = .ret r ρ' else forL f tg items ρ = .nx ρ' ∧ I ρ'
  | [], ρ, h, _ => ⟨ρ, by simp [forL, h]⟩
  | d :: ds, ρ, h, st => by
    obtain ⟨ρ1, ρ2, h1, h2⟩ := st d ρ (by simp) h
    cases hg : g d with
    | true =>
      rw [hg, if_pos rfl] at h2
      exact ⟨ρ2, by simp [forL, h1, h2, hg]⟩
    | false =>
      rw [hg, if_neg (by decide)] at h2
      obtain ⟨ρ', h4⟩ := forL_find g r I ds ρ2 h2.2 fun x ρ hx => st x ρ (by simp [hx])
      refine ⟨ρ', ?_⟩
      rw [List.any_cons, hg, Bool.false_or]
      have e : forL f tg (d :: ds) ρ = forL f tg ds ρ2 := by simp only [forL, h1, h2.1]
      rw [e]
      exact h4
theorem ex_for {tg : Tg} {sk : Sk} {os : List O} {ρ1 : Rho} {ds items : List D} (h1 : evOs pg C as ρ = .ok os ρ1) (h2 : see ρ1 os = some ds) (h3 : srcOf sk ds = some items) :
    exS pg C (.for_ tg sk as xs) ρ = (forL (fun r => exSs pg C xs r) tg items (hide ρ1 (lentOf as))).map (unhide ρ1 (lentOf as)) := by
  rw [exS, h1, t_ok]
  simp only [h2, h3]

/-! ### comprehensions -/
theorem wpR_get : ∀ (vs : List Nat) (ρ : Rho) (j : Nat), (wipeR ρ vs)[j]? = if j ∈ vs ∧ j < ρ.length then some none else ρ[j]?
  | [], ρ, j => by simp [wipeR]
  | v :: vs, ρ, j => by
    have len : (wipeR ρ vs).length = ρ.length := by
      have : ∀ (vs : List Nat), (wipeR ρ vs).length = ρ.length := fun vs => by
        induction vs with
        | nil => rfl
        | cons v vs ih => simp [wipeR, ih]
      exact this vs
    show ((wipeR ρ vs).set v none)[j]? = _
    by_cases e : v = j
    · subst e
      by_cases hl : v < ρ.length
      · rw [List.getElem?_set_self (by omega)]
        simp [hl]
      · rw [List.getElem?_eq_none (by rw [List.length_set]; omega), List.getElem?_eq_none (by omega)]
        simp [hl]
    · rw [List.getElem?_set_ne e, wpR_get vs ρ j]
      have : (j ∈ v :: vs ∧ j < ρ.length) ↔ (j ∈ vs ∧ j < ρ.length) := by
        rw [List.mem_cons]
        constructor
        · rintro ⟨h | h, h2⟩
          · exact absurd h.symm e
          · exact ⟨h, h2⟩
        · rintro ⟨h, h2⟩
          exact ⟨.inr h, h2⟩
      simp only [this]
theorem wpR_len (ρ : Rho) : ∀ (vs : List Nat), (wipeR ρ vs).length = ρ.length
  | [] => rfl
  | v :: vs => by simp [wipeR, wpR_len ρ vs]
theorem back_get (ρ : Rho) : ∀ (vs : List Nat) (ρ' : Rho) (j : Nat), (backR ρ ρ' vs)[j]? = if j ∈ vs ∧ j < ρ'.length then some ((ρ[j]?).getD none) else ρ'[j]?
  | [], ρ', j => by simp [backR]
  | v :: vs, ρ', j => by
    have len : ∀ (vs : List Nat), (backR ρ ρ' vs).length = ρ'.length := fun vs => by
      induction vs with
      | nil => rfl
      | cons v vs ih => simp [backR, ih]
    show ((backR ρ ρ' vs).set v ((ρ[v]?).getD none))[j]? = _
    by_cases e : v = j
    · subst e
      by_cases hl : v < ρ'.length
      · rw [List.getElem?_set_self (by rw [len]; omega)]
        simp [hl]
      · rw [List.getElem?_eq_none (by rw [List.length_set, len]; omega), List.getElem?_eq_none (l := ρ') (by omega)]
        simp [hl]
    · rw [List.getElem?_set_ne e, back_get ρ vs ρ' j]
      have : (j ∈ v :: vs ∧ j < ρ'.length) ↔ (j ∈ vs ∧ j < ρ'.length) := by
        rw [List.mem_cons]
        constructor
        · rintro ⟨h | h, h2⟩
          · exact absurd h.symm e
          · exact ⟨h, h2⟩
        · rintro ⟨h, h2⟩
          exact ⟨.inr h, h2⟩
      simp only [this]
theorem back_wipe (ρ ρ' : Rho) (vs : List Nat) : backR ρ (wipeR ρ' vs) vs = backR ρ ρ' vs := by
  apply List.ext_getElem?
  intro j
  rw [back_get, back_get, wpR_get, wpR_len]
  by_cases h : j ∈ vs ∧ j < ρ'.length
  · rw [if_pos h, if_pos h]
  · rw [if_neg h, if_neg h, if_neg h]
/-- a comprehension that changes nothing, item by item -/
theorem compL_pure {fe : Rho → R D} {fi : Rho → R Bool} {tg : Tg} {vs : List Nat} {ρ0 : Rho} {g : D → Bool} {h : D → D} : ∀ (items : List D) (ρ : Rho), wipeR ρ vs = ρ0 →
    (∀ d ∈ items, ∃ ρ1, setTg tg d ρ0 = some ρ1 ∧ wipeR ρ1 vs = ρ0 ∧ fi ρ1 = .ok (g d) ρ1 ∧ (g d = true → fe ρ1 = .ok (h d) ρ1)) → ∃ ρ', compL fe fi tg vs items ρ = .ok ((items.filter g).map h) ρ' ∧ wipeR ρ' vs = ρ0
  | [], ρ, e, _ => ⟨ρ, rfl, e⟩
  | d :: ds, ρ, e, st => by
    obtain ⟨ρ1, h1, h2, h3, h4⟩ := st d (by simp)
    obtain ⟨ρ', h5, h6⟩ := compL_pure ds ρ1 h2 fun x hx => st x (by simp [hx])
    refine ⟨ρ', ?_, h6⟩
    cases hg : g d with
    | true => simp only [compL, e, h1, h3, b_ok, hg, if_true, h4 hg, h5, List.filter_cons_of_pos, List.map_cons]
    | false => simp [compL, e, h1, h3, b_ok, hg, h5]
theorem lc_pure {tg : Tg} {sk : Sk} {ifs : List X} {vs : List Nat} {os : List O} {ρ1 : Rho} {ds items : List D} {g : D → Bool} {h : D → D} (h1 : evOs pg C as ρ = .ok os ρ1) (h2 : see ρ1 os = some ds) (h3 : srcOf sk ds = some items)
    (st : ∀ d ∈ items, ∃ r, setTg tg d (wipeR (hide ρ1 (lentOf as)) vs) = some r ∧ wipeR r vs = wipeR (hide ρ1 (lentOf as)) vs ∧ evIf pg C ifs r = .ok (g d) r ∧ (g d = true → evE pg C e r = .ok (h d) r))
    (hb : unhide ρ1 (lentOf as) (backR ρ1 (wipeR (hide ρ1 (lentOf as)) vs) vs) = ρ1) (hf : items.length ≤ sizeLine) :
    evE pg C (.lc e tg sk as ifs vs) ρ = .ok (.list ((items.filter g).map h)) ρ1 := by
  obtain ⟨ρ', h5, h6⟩ := compL_pure (fe := fun r => evE pg C e r) (fi := fun r => evIf pg C ifs r) items (hide ρ1 (lentOf as)) rfl st
  rw [evE, h1, b_ok]
  simp only [h2, h3, h5]
  have : fitsLn ((items.filter g).map h).length = true := by
    unfold fitsLn
    rw [List.length_map, decide_eq_true_eq]
    exact Nat.le_trans (List.length_filter_le _ _) hf
  rw [if_pos this, ← back_wipe, h6, hb]
/-- of all items -/
theorem lc_all {tg : Tg} {sk : Sk} {vs : List Nat} {os : List O} {ρ1 : Rho} {ds items : List D} {h : D → D} (h1 : evOs pg C as ρ = .ok os ρ1) (h2 : see ρ1 os = some ds) (h3 : srcOf sk ds = some items)
    (st : ∀ d ∈ items, ∃ r, setTg tg d (wipeR (hide ρ1 (lentOf as)) vs) = some r ∧ wipeR r vs = wipeR (hide ρ1 (lentOf as)) vs ∧ evE pg C e r = .ok (h d) r)
    (hb : unhide ρ1 (lentOf as) (backR ρ1 (wipeR (hide ρ1 (lentOf as)) vs) vs) = ρ1) (hf : items.length ≤ sizeLine) :
    evE pg C (.lc e tg sk as [] vs) ρ = .ok (.list (items.map h)) ρ1 := by
  have := lc_pure (pg := pg) (C := C) (ifs := []) (g := fun _ => true) (h := h) h1 h2 h3 (fun d hd => let ⟨r, a, b, c⟩ := st d hd; ⟨r, a, b, ev_if0, fun _ => c⟩) hb hf
  rw [this, List.filter_eq_self.mpr fun _ _ => rfl]
/-- a comprehension that changes things: by an invariant -/
theorem compL_inv {fe : Rho → R D} {tg : Tg} {vs : List Nat} (I : List D → List D → Rho → Prop) (all : List D) (st : ∀ (pre out : List D) (d : D) (post : List D) (ρ : Rho), all = pre ++ d :: post → I pre out ρ → ∃ ρ1 x ρ2, setTg tg d (wipeR ρ vs) = some ρ1 ∧ fe ρ1 = .ok x ρ2 ∧ I (pre ++ [d]) (out ++ [x]) ρ2) :
    ∀ (items pre out : List D) (ρ : Rho), all = pre ++ items → I pre out ρ → ∃ xs ρ', compL fe (fun r => .ok true r) tg vs items ρ = .ok xs ρ' ∧ I all (out ++ xs) ρ'
  | [], pre, out, ρ, e, h => ⟨[], ρ, rfl, by rw [e]; simpa using h⟩
  | d :: ds, pre, out, ρ, e, h => by
    obtain ⟨ρ1, x, ρ2, h1, h2, h3⟩ := st pre out d ds ρ e h
    obtain ⟨xs, ρ', h4, h5⟩ := compL_inv I all st ds (pre ++ [d]) (out ++ [x]) ρ2 (by rw [e]; simp) h3
    refine ⟨x :: xs, ρ', ?_, by simpa using h5⟩
    simp only [compL, h1, b_ok, if_true, h2, h4]
theorem lc_inv {tg : Tg} {sk : Sk} {vs : List Nat} {os : List O} {ρ1 : Rho} {ds items : List D} (I : List D → List D → Rho → Prop) (h1 : evOs pg C as ρ = .ok os ρ1) (h2 : see ρ1 os = some ds) (h3 : srcOf sk ds = some items)
    (h0 : I [] [] (hide ρ1 (lentOf as)))
    (st : ∀ (pre out : List D) (d : D) (post : List D) (ρ : Rho), items = pre ++ d :: post → I pre out ρ → ∃ ρ1 x ρ2, setTg tg d (wipeR ρ vs) = some ρ1 ∧ evE pg C e ρ1 = .ok x ρ2 ∧ I (pre ++ [d]) (out ++ [x]) ρ2)
    (hf : ∀ (xs : List D) (ρ' : Rho), I items xs ρ' → xs.length ≤ sizeLine) :
    ∃ xs ρ', evE pg C (.lc e tg sk as [] vs) ρ = .ok (.list xs) (unhide ρ1 (lentOf as) (backR ρ1 ρ' vs)) ∧ I items xs ρ' := by
  obtain ⟨xs, ρ', h4, h5⟩ := compL_inv (fe := fun r => evE pg C e r) (tg := tg) (vs := vs) I items st items [] [] _ rfl h0
  rw [List.nil_append] at h5
  refine ⟨xs, ρ', ?_, h5⟩
  rw [evE, h1, b_ok]
  have e2 : (fun r => evIf pg C [] r) = fun r => R.ok true r := by funext r; exact ev_if0
  simp only [h2, h3]
  rw [e2, h4]
  have : fitsLn xs.length = true := decide_eq_true (hf _ _ h5)
  simp only [this, if_true]
end
end PV

set_option maxHeartbeats 4000000
namespace PV
open PySem L2
def tpS (i : Nat) : Stmt := PySem.Challenge.pw_ledgertrace_k02_whole_semiring.main.body.getD i (.Pass ⟨0, 0, 0, 0⟩)
def fi_0 : Fi := ⟨"frozen", tpS 8, ["p", "terms", "monomial", "coefficient", "token", "exponent"], 1, [.val, .own, .val, .val, .val, .val],
   [(.asgO 1 (.lst [])),
    (.for_ (.tp [2, 3]) .each [(.var 0)] [(.exp (.mm .append 1 [(.tup [(.op .tup1 [(.lc (.tup [(.var 4), (.var 5)]) (.tp [4, 5]) .each [(.var 2)] [] [4, 5])]), (.var 3)])]))]),
    (.ret (.op .tup1 [(.own 1)]))], false⟩
def fi_1 : Fi := ⟨"checked", tpS 9, ["counts", "monomial"], 1, [.bor, .val],
   [(.ite (.op .gt [(.op .len [(.bor 0)]), (.glo 0)]) [(.delI 0 .non)] []),
    (.ret (.lk 0 [] (.op .tup1 [(.op .sort1 [(.lc (.tup [(.var 1), (.op .min2 [(.op .idx [(.var 0), (.var 1)]), (.glo 1)])]) (.nm 1) .eachD [(.var 0)] [] [1])])])))], false⟩
def fi_2 : Fi := ⟨"need_figures", tpS 10, ["p", "monomial", "coefficient", "_", "exponent"], 1, [.val, .val, .val, .val, .val],
   [(.for_ (.tp [1, 2]) .each [(.var 0)] [(.ite (.or [(.op .ge [(.var 2), (.glo 1)]), (.op .any1 [(.lc (.op .ge [(.var 4), (.glo 1)]) (.tp [3, 4]) .each [(.var 1)] [] [3, 4])])]) [(.delI 0 .non)] [])]),
    (.ret (.var 0))], false⟩
def fi_3 : Fi := ⟨"monomial_product", tpS 11, ["one", "other", "exponents", "token", "exponent"], 2, [.val, .val, .own, .val, .val],
   [(.asgO 2 (.dc (.var 3) (.var 4) (.tp [3, 4]) .each [(.var 0)] [] [3, 4])),
    (.for_ (.tp [3, 4]) .each [(.var 1)] [(.setI 2 (.var 3) (.op .add [(.get 2 [(.var 3), (.int 0)]), (.var 4)]))]),
    (.ret (.op .tup1 [(.op .sort1 [(.op .ditems [(.own 2)])])]))], false⟩
def fi_4 : Fi := ⟨"plus", tpS 12, ["p", "q"], 2, [.val, .val],
   [(.ret (.call 2 [(.call 6 [(.var 0), (.var 1)])]))], false⟩
def fi_5 : Fi := ⟨"times", tpS 13, ["p", "q"], 2, [.val, .val],
   [(.ret (.call 2 [(.call 7 [(.var 0), (.var 1)])]))], false⟩
def fi_6 : Fi := ⟨"added", tpS 14, ["p", "q", "counts", "monomial", "coefficient"], 2, [.val, .val, .own, .val, .val],
   [(.asgO 2 (.dic [] [])),
    (.for_ (.tp [3, 4]) .each [(.op .add [(.call 0 [(.var 0)]), (.call 0 [(.var 1)])])] [(.setI 2 (.var 3) (.op .add [(.get 2 [(.var 3), (.int 0)]), (.var 4)]))]),
    (.ret (.call 1 [(.own 2)]))], false⟩
def fi_7 : Fi := ⟨"multiplied", tpS 15, ["p", "q", "counts", "others", "monomial", "coefficient", "other", "factor", "made"], 2, [.val, .val, .own, .val, .val, .val, .val, .val, .val],
   [(.asgO 2 (.dic [] [])),
    (.asg (.nm 3) (.call 0 [(.var 1)])),
    (.for_ (.tp [4, 5]) .each [(.call 0 [(.var 0)])] [(.for_ (.tp [6, 7]) .each [(.var 3)] [(.asg (.nm 8) (.call 3 [(.var 4), (.var 6)])),
    (.setI 2 (.var 8) (.op .add [(.get 2 [(.var 8), (.int 0)]), (.op .mul [(.var 5), (.var 7)])]))]),
    (.exp (.call 1 [(.own 2)]))]),
    (.ret (.call 1 [(.own 2)]))], false⟩
def fi_8 : Fi := ⟨"_law_mix", tpS 17, ["_law_cell", "_law_salt", "_law_one"], 2, [.val, .val, .val],
   [(.asg (.nm 2) (.op .mod [(.op .int1 [(.op .add [(.op .add [(.op .mul [(.var 0), (.int 48271)]), (.op .mul [(.var 1), (.int 69621)])]), (.int 12345)])]), (.int 2147483647)])),
    (.ret (.op .mod [(.op .int1 [(.op .add [(.op .add [(.op .mul [(.var 2), (.var 2)]), (.op .mul [(.var 2), (.int 16807)])]), (.op .mul [(.var 1), (.int 7919)])])]), (.int 2147483629)]))], false⟩
def fi_9 : Fi := ⟨"_law_box", tpS 18, ["_law_script", "_law_at", "_law_cell"], 2, [.val, .val, .val],
   [(.ret (.lst [(.int 0), (.int 0), (.var 1), (.int 0), (.var 1), (.lc (.op .int1 [(.var 2)]) (.nm 2) .each [(.var 0)] [] [2])]))], true⟩
def fi_10 : Fi := ⟨"_law_draw", tpS 19, ["_law_box_here", "_law_many", "_law_cell", "_law_drawn"], 2, [.inn, .val, .val, .val],
   [(.ite (.and [(.op .eq [(.op .idx [(.own 0), (.int 1)]), (.int 0)]), (.op .lt [(.op .idx [(.own 0), (.int 2)]), (.op .len [(.op .idx [(.own 0), (.int 5)])])])]) [(.asg (.nm 2) (.op .idx [(.op .idx [(.own 0), (.int 5)]), (.op .idx [(.own 0), (.int 2)])])),
    (.setI 0 (.int 2) (.op .add [(.op .idx [(.own 0), (.int 2)]), (.int 2)])),
    (.setI 0 (.int 4) (.op .mod [(.op .int1 [(.op .add [(.op .mul [(.op .idx [(.own 0), (.int 4)]), (.int 31)]), (.var 2)])]), (.int 2147483647)])),
    (.ite (.op .ge [(.var 2), (.op .pow [(.int 10), (.int 18)])]) [(.setI 0 (.int 0) (.op .sub [(.var 2), (.op .pow [(.int 10), (.int 18)])])),
    (.setI 0 (.int 1) (.int 60))] [])] []),
    (.ite (.and [(.op .gt [(.op .idx [(.own 0), (.int 1)]), (.int 0)]), (.op .gt [(.op .idx [(.own 0), (.int 0)]), (.int 0)])]) [(.asg (.nm 3) (.op .mod [(.op .int1 [(.op .idx [(.own 0), (.int 0)])]), (.var 1)])),
    (.setI 0 (.int 0) (.op .fdiv [(.op .idx [(.own 0), (.int 0)]), (.var 1)])),
    (.setI 0 (.int 1) (.op .sub [(.op .idx [(.own 0), (.int 1)]), (.int 1)])),
    (.ret (.var 3))] []),
    (.setI 0 (.int 1) (.int 0)),
    (.setI 0 (.int 3) (.op .add [(.op .idx [(.own 0), (.int 3)]), (.int 1)])),
    (.ret (.op .mod [(.op .int1 [(.call 8 [(.op .idx [(.own 0), (.int 4)]), (.op .idx [(.own 0), (.int 3)])])]), (.var 1)]))], false⟩
def fi_11 : Fi := ⟨"_law_alike", tpS 20, ["_law_told", "_law_due", "_law_k"], 2, [.val, .val, .val],
   [(.ite (.op (.isa [4, 3]) [(.var 1)]) [(.ite (.or [(.op .ne [(.op (.isa [4]) [(.var 0)]), (.op (.isa [4]) [(.var 1)])]), (.op .ne [(.op (.isa [3]) [(.var 0)]), (.op (.isa [3]) [(.var 1)])])]) [(.ret (.bl false))] []),
    (.ite (.op .ne [(.op .len [(.var 0)]), (.op .len [(.var 1)])]) [(.ret (.bl false))] []),
    (.for_ (.nm 2) .rng1 [(.op .len [(.var 1)])] [(.ite (.not (.call 11 [(.op .idx [(.var 0), (.var 2)]), (.op .idx [(.var 1), (.var 2)])])) [(.ret (.bl false))] [])]),
    (.ret (.bl true))] []),
    (.ite (.op .isN [(.var 1)]) [(.ret (.op .isN [(.var 0)]))] []),
    (.ite (.op (.isa [1]) [(.var 1)]) [(.ret (.and [(.op (.isa [1]) [(.var 0)]), (.op .eq [(.var 0), (.var 1)])]))] []),
    (.ite (.op (.isa [2]) [(.var 1)]) [(.ret (.and [(.op (.isa [2]) [(.var 0)]), (.op .eq [(.var 0), (.var 1)])]))] []),
    (.ret (.and [(.op (.isa [0]) [(.var 0)]), (.not (.op (.isa [1]) [(.var 0)])), (.op .eq [(.var 0), (.var 1)])]))], false⟩
def fi_12 : Fi := ⟨"_law_token", tpS 21, ["_law_box_here"], 1, [.inn],
   [(.ite (.op .gt [(.call 10 [(.own 0), (.int 4)]), (.int 0)]) [(.ret (.op .idx [(.lst [(.str "a1"), (.str "a2"), (.str "a10"), (.str "b1"), (.str "a100"), (.str "z9999"), (.str "b12")]), (.call 10 [(.own 0), (.int 7)])]))] []),
    (.ret (.op .add [(.op .idx [(.str "abz"), (.call 10 [(.own 0), (.int 3)])]), (.op .str1 [(.op .add [(.int 1), (.call 10 [(.own 0), (.op .idx [(.lst [(.int 9), (.int 9999)]), (.call 10 [(.own 0), (.int 2)])])])])])]))], false⟩
def fi_13 : Fi := ⟨"_law_sorted", tpS 22, ["_law_row", "_law_found", "_law_one", "_law_other"], 1, [.val, .own, .val, .val],
   [(.asgO 1 (.lst [])),
    (.for_ (.nm 2) .each [(.var 0)] [(.exp (.mm .insert 1 [(.op .len [(.lc (.var 3) (.nm 3) .each [(.own 1)] [(.op .lt [(.var 3), (.var 2)])] [3])]), (.var 2)]))]),
    (.retO 1)], true⟩
def fi_14 : Fi := ⟨"_law_normal", tpS 23, ["_law_book", "_law_monomial_here", "_law_one"], 1, [.bor, .val, .val],
   [(.ret (.lk 0 [] (.op .tup1 [(.lc (.tup [(.var 1), (.op .idx [(.var 0), (.var 1)])]) (.nm 1) .each [(.call 13 [(.lc (.var 2) (.nm 2) .eachD [(.var 0)] [] [2])])] [(.op .gt [(.op .idx [(.var 0), (.var 1)]), (.int 0)])] [1])])))], false⟩
def fi_15 : Fi := ⟨"_law_monomial", tpS 24, ["_law_box_here", "_law_most", "_law_book", "_law_k", "_law_token_here", "_law_one"], 2, [.inn, .val, .own, .val, .val, .val],
   [(.asgO 2 (.dic [] [])),
    (.for_ (.nm 3) .rng1 [(.call 10 [(.own 0), (.op .add [(.var 1), (.int 1)])])] [(.setI 2 (.call 12 [(.own 0)]) (.op .add [(.int 1), (.call 10 [(.own 0), (.op .idx [(.lst [(.int 1), (.int 3), (.int 12)]), (.call 10 [(.own 0), (.int 3)])])])]))]),
    (.retZ 2 (.op .tup1 [(.lc (.tup [(.var 4), (.op .idx [(.var 2), (.var 4)])]) (.nm 4) .each [(.call 13 [(.lc (.var 5) (.nm 5) .eachD [(.var 2)] [] [5])])] [] [4])]))], false⟩
def fi_16 : Fi := ⟨"_law_poly", tpS 25, ["_law_box_here", "_law_terms", "_law_most", "_law_book", "_law_k"], 3, [.inn, .val, .val, .own, .val],
   [(.asgO 3 (.dic [] [])),
    (.for_ (.nm 4) .rng1 [(.call 10 [(.own 0), (.op .add [(.var 1), (.int 1)])])] [(.setI 3 (.call 15 [(.own 0), (.var 2)]) (.op .add [(.int 1), (.call 10 [(.own 0), (.op .idx [(.lst [(.int 1), (.int 3), (.int 1000)]), (.call 10 [(.own 0), (.int 3)])])])]))]),
    (.ret (.call 14 [(.own 3)]))], false⟩
def fi_17 : Fi := ⟨"_law_plus", tpS 27, ["_law_p", "_law_q", "_law_book", "_law_monomial_here", "_law_coefficient"], 2, [.val, .val, .own, .val, .val],
   [(.asgO 2 (.dic [] [])),
    (.for_ (.tp [3, 4]) .each [(.op .add [(.var 0), (.var 1)])] [(.setI 2 (.var 3) (.op .add [(.get 2 [(.var 3), (.int 0)]), (.var 4)]))]),
    (.ret (.call 14 [(.own 2)]))], false⟩
def fi_18 : Fi := ⟨"_law_product", tpS 28, ["_law_one", "_law_other", "_law_book", "_law_token_here", "_law_exponent", "_law_part"], 2, [.val, .val, .own, .val, .val, .val],
   [(.asgO 2 (.dic [] [])),
    (.for_ (.tp [3, 4]) .each [(.op .add [(.var 0), (.var 1)])] [(.setI 2 (.var 3) (.op .add [(.get 2 [(.var 3), (.int 0)]), (.var 4)]))]),
    (.retZ 2 (.op .tup1 [(.lc (.tup [(.var 3), (.op .idx [(.var 2), (.var 3)])]) (.nm 3) .each [(.call 13 [(.lc (.var 5) (.nm 5) .eachD [(.var 2)] [] [5])])] [] [3])]))], false⟩
def fi_19 : Fi := ⟨"_law_times", tpS 29, ["_law_p", "_law_q", "_law_book", "_law_one", "_law_other", "_law_monomial_here"], 2, [.val, .val, .own, .val, .val, .val],
   [(.asgO 2 (.dic [] [])),
    (.for_ (.nm 3) .each [(.var 0)] [(.for_ (.nm 4) .each [(.var 1)] [(.asg (.nm 5) (.call 18 [(.op .idx [(.var 3), (.int 0)]), (.op .idx [(.var 4), (.int 0)])])),
    (.setI 2 (.var 5) (.op .add [(.get 2 [(.var 5), (.int 0)]), (.op .mul [(.op .idx [(.var 3), (.int 1)]), (.op .idx [(.var 4), (.int 1)])])]))])]),
    (.ret (.call 14 [(.own 2)]))], false⟩
def fi_20 : Fi := ⟨"_law_summed", tpS 30, ["_law_p", "_law_q", "_law_r", "_law_due"], 3, [.val, .val, .val, .val],
   [(.asg (.nm 3) (.call 17 [(.call 17 [(.var 0), (.var 1)]), (.var 2)])),
    (.ite (.not (.call 11 [(.lst [(.call 4 [(.call 4 [(.var 0), (.var 1)]), (.var 2)]), (.call 4 [(.var 0), (.call 4 [(.var 1), (.var 2)])]), (.call 4 [(.var 2), (.call 4 [(.var 1), (.var 0)])])]), (.lst [(.var 3), (.var 3), (.var 3)])])) [(.ret (.bl false))] []),
    (.ret (.call 11 [(.lst [(.call 4 [(.var 0), (.glo 2)]), (.call 4 [(.glo 2), (.var 0)])]), (.lst [(.var 0), (.var 0)])]))], false⟩
def fi_21 : Fi := ⟨"_law_multiplied", tpS 31, ["_law_p", "_law_q", "_law_r", "_law_due"], 3, [.val, .val, .val, .val],
   [(.asg (.nm 3) (.call 19 [(.call 19 [(.var 0), (.var 1)]), (.var 2)])),
    (.ite (.not (.call 11 [(.lst [(.call 5 [(.call 5 [(.var 0), (.var 1)]), (.var 2)]), (.call 5 [(.var 0), (.call 5 [(.var 1), (.var 2)])]), (.call 5 [(.var 2), (.call 5 [(.var 1), (.var 0)])])]), (.lst [(.var 3), (.var 3), (.var 3)])])) [(.ret (.bl false))] []),
    (.ret (.call 11 [(.lst [(.call 5 [(.var 0), (.glo 3)]), (.call 5 [(.glo 3), (.var 0)]), (.call 5 [(.var 0), (.glo 2)]), (.call 5 [(.glo 2), (.var 0)])]), (.lst [(.var 0), (.var 0), (.tup []), (.tup [])])]))], false⟩
def fi_22 : Fi := ⟨"_law_parted", tpS 32, ["_law_p", "_law_q", "_law_r", "_law_due", "_law_told"], 3, [.val, .val, .val, .val, .val],
   [(.asg (.nm 3) (.call 17 [(.call 19 [(.var 0), (.var 1)]), (.call 19 [(.var 0), (.var 2)])])),
    (.asg (.nm 4) (.lst [(.call 5 [(.var 0), (.call 4 [(.var 1), (.var 2)])]), (.call 4 [(.call 5 [(.var 0), (.var 1)]), (.call 5 [(.var 0), (.var 2)])]), (.call 5 [(.call 4 [(.var 1), (.var 2)]), (.var 0)])])),
    (.ret (.call 11 [(.var 4), (.lst [(.var 3), (.var 3), (.var 3)])]))], false⟩
def fi_23 : Fi := ⟨"law", tpS 33, ["_law_script", "_law_box_here", "_law_far", "_law_p", "_law_q", "_law_r", "_law_one", "_law_other", "_law_third"], 1, [.val, .own, .own, .val, .val, .val, .val, .val, .val],
   [(.asgO 1 (.call 9 [(.var 0), (.int 0)])),
    (.asgO 2 (.call 9 [(.var 0), (.int 1)])),
    (.asg (.nm 3) (.call 16 [(.own 1), (.int 5), (.int 3)])),
    (.asg (.nm 4) (.call 16 [(.own 2), (.int 5), (.int 3)])),
    (.asg (.nm 5) (.call 16 [(.own 2), (.int 5), (.int 3)])),
    (.for_ (.tp [6, 7, 8]) .each [(.lst [(.tup [(.var 3), (.var 4), (.var 5)]), (.tup [(.var 4), (.var 5), (.var 3)]), (.tup [(.var 3), (.var 3), (.var 4)]), (.tup [(.var 3), (.var 4), (.glo 2)]), (.tup [(.glo 3), (.var 3), (.var 4)]), (.tup [(.var 3), (.var 3), (.var 3)])])] [(.ite (.or [(.not (.call 20 [(.var 6), (.var 7), (.var 8)])), (.not (.call 21 [(.var 6), (.var 7), (.var 8)]))]) [(.ret (.bl false))] []),
    (.ite (.not (.call 22 [(.var 6), (.var 7), (.var 8)])) [(.ret (.bl false))] [])]),
    (.ret (.bl true))], false⟩
def pgm : Pg := ⟨[fi_0, fi_1, fi_2, fi_3, fi_4, fi_5, fi_6, fi_7, fi_8, fi_9, fi_10, fi_11, fi_12, fi_13, fi_14, fi_15, fi_16, fi_17, fi_18, fi_19, fi_20, fi_21, fi_22, fi_23], [(.int 400), (.int 10000000000000000000000000000000000000000000000000000000000000000000000000000000000000000000000000000), (.tuple []), (.tuple [(.tuple [(.tuple []), (.int 1)])])], [], []⟩
theorem kd_0 : kindsOf pgm 0 = [.val] := rfl
theorem kd_1 : kindsOf pgm 1 = [.bor] := rfl
theorem kd_2 : kindsOf pgm 2 = [.val] := rfl
theorem kd_3 : kindsOf pgm 3 = [.val, .val] := rfl
theorem kd_4 : kindsOf pgm 4 = [.val, .val] := rfl
theorem kd_5 : kindsOf pgm 5 = [.val, .val] := rfl
theorem kd_6 : kindsOf pgm 6 = [.val, .val] := rfl
theorem kd_7 : kindsOf pgm 7 = [.val, .val] := rfl
theorem kd_8 : kindsOf pgm 8 = [.val, .val] := rfl
theorem kd_9 : kindsOf pgm 9 = [.val, .val] := rfl
theorem kd_10 : kindsOf pgm 10 = [.inn, .val] := rfl
theorem kd_11 : kindsOf pgm 11 = [.val, .val] := rfl
theorem kd_12 : kindsOf pgm 12 = [.inn] := rfl
theorem kd_13 : kindsOf pgm 13 = [.val] := rfl
theorem kd_14 : kindsOf pgm 14 = [.bor] := rfl
theorem kd_15 : kindsOf pgm 15 = [.inn, .val] := rfl
theorem kd_16 : kindsOf pgm 16 = [.inn, .val, .val] := rfl
theorem kd_17 : kindsOf pgm 17 = [.val, .val] := rfl
theorem kd_18 : kindsOf pgm 18 = [.val, .val] := rfl
theorem kd_19 : kindsOf pgm 19 = [.val, .val] := rfl
theorem kd_20 : kindsOf pgm 20 = [.val, .val, .val] := rfl
theorem kd_21 : kindsOf pgm 21 = [.val, .val, .val] := rfl
theorem kd_22 : kindsOf pgm 22 = [.val, .val, .val] := rfl
theorem kd_23 : kindsOf pgm 23 = [.val] := rfl
theorem d_0 {P0 : Program} {w : World} {K : PySem.W.Frag} {mg : Str → Option Value} {base : Heap} {EC : Nat → Option (Addr × Str)} {T : List (Addr × Str)} {n : Nat} {f : Addr} {cdv : Value} {A : Around} {outer : List Env} {s : Shared} {H : Hp} {E : XK} (m : Mgs mg) (kc0 : ConstAt K mg "MOST_TERMS" (.int 400)) (kc1 : ConstAt K mg "FIRST_TOO_GREAT" (.int 10000000000000000000000000000000000000000000000000000000000000000000000000000000000000000000000000000)) (kc2 : ConstAt K mg "ZERO" (.tuple [])) (kc3 : ConstAt K mg "ONE" (.tuple [(.tuple [(.tuple []), (.int 1)])]))
    (cn : Cn (cx P0 w K mg base fi_0 f cdv A outer s H E) (bdOf ⟨P0, w, K⟩ pgm EC T n fi_0) (fun cls dd _ H' => E cls dd H')) :
    PSs (cx P0 w K mg base fi_0 f cdv A outer s H E) (defBody fi_0.st) (tN (bdOf ⟨P0, w, K⟩ pgm EC T n fi_0) (fun cls dd _ H' => E cls dd H') [0, 1, 2, 3, 4, 5] fi_0.body) :=
  (sCons (sO cn 1 (eLst vNil))
  (sCons (sFor cn (ws' := [0, 1, 2, 3, 4, 5]) rfl (pEach cn rfl (eO rfl (V1 0))) (pg_both (by exact cn.calm) (pgs_cons (G1 2 (by exact cn.nd)) (pgs_cons (G1 3 (by exact cn.nd)) pgs_nil))) (sCons (sExp (eMm cn (i := 1) rfl PySem.F.slot_list_append PySem.F.type_list_append mm_append (pv 1) (vCons (eTup (vCons (eE (eT cn cd_tup (by rfl) m.tuple bt_tuple (opC (eO rfl (eLc cn (pEach cn rfl (eO rfl (V1 2))) (blkOk_by (own := [("token", 4), ("exponent", 5)]) (by kernel_rfl)) rfl rfl (fun _ _ _ _ _ => (pg_both (by exact cn.calm) (pgs_cons (G1 4 (by exact cn.nd)) (pgs_cons (G1 5 (by exact cn.nd)) pgs_nil)))) (fun _ _ _ _ _ cn => ifN) (fun _ _ _ _ _ cn => (eTup (vCons (V1 4) (vCons (V1 5) vNil)))))) opN))) (vCons (V1 3) vNil))) vNil)))
  sNil))
  (sCons (sRet (eE (eT cn cd_tup (by rfl) m.tuple bt_tuple (opC (O1 1) opN))))
  sNil)))
theorem sc_0 : FnScope fi_0.N (fi_0.N.take fi_0.np) (defScope fi_0.st) := ⟨rfl, rfl, rfl, by decide +kernel, rfl, by decide +kernel, by decide +kernel⟩
theorem ok_0 {P0 : Program} {w : World} {K : PySem.W.Frag} {mg : Str → Option Value} {base : Heap} {EC : Nat → Option (Addr × Str)} {T : List (Addr × Str)} (D : DefAt K mg fi_0) (m : Mgs mg) (kc0 : ConstAt K mg "MOST_TERMS" (.int 400)) (kc1 : ConstAt K mg "FIRST_TOO_GREAT" (.int 10000000000000000000000000000000000000000000000000000000000000000000000000000000000000000000000000000)) (kc2 : ConstAt K mg "ZERO" (.tuple [])) (kc3 : ConstAt K mg "ONE" (.tuple [(.tuple [(.tuple []), (.int 1)])])) : DefOk P0 w K mg base pgm EC T fi_0 :=
  ⟨let ⟨f, fd, F, hm⟩ := D; ⟨f, fd, [0, 1, 2, 3, 4, 5], F, hm, F.binds (ps := fi_0.N.take fi_0.np) fun _ _ _ _ _ _ us hl => match us, hl with | [_], _ => rfl, sc_0, rfl, fun n cdv A outer s H E _ cn => d_0 m kc0 kc1 kc2 kc3 cn⟩, by decide⟩
theorem d_1 {P0 : Program} {w : World} {K : PySem.W.Frag} {mg : Str → Option Value} {base : Heap} {EC : Nat → Option (Addr × Str)} {T : List (Addr × Str)} {n : Nat} {f : Addr} {cdv : Value} {A : Around} {outer : List Env} {s : Shared} {H : Hp} {E : XK} (m : Mgs mg) (kc0 : ConstAt K mg "MOST_TERMS" (.int 400)) (kc1 : ConstAt K mg "FIRST_TOO_GREAT" (.int 10000000000000000000000000000000000000000000000000000000000000000000000000000000000000000000000000000)) (kc2 : ConstAt K mg "ZERO" (.tuple [])) (kc3 : ConstAt K mg "ONE" (.tuple [(.tuple [(.tuple []), (.int 1)])]))
    (cn : Cn (cx P0 w K mg base fi_1 f cdv A outer s H E) (bdOf ⟨P0, w, K⟩ pgm EC T n fi_1) (fun cls dd _ H' => E cls dd H')) :
    PSs (cx P0 w K mg base fi_1 f cdv A outer s H E) (defBody fi_1.st) (tN (bdOf ⟨P0, w, K⟩ pgm EC T n fi_1) (fun cls dd _ H' => E cls dd H') [1] fi_1.body) :=
  (sCons (sIf (tCm cn (cmp_gt cn.u64) (eO rfl (eB cn cd_len (by rfl) m.len bt_len (opC (B1 0) opN))) (eO (nw := false) rfl (eGlo cn kc0 rfl (by rfl))) (nomark _)) (sCons sStuck
  sNil) sNil)
  (sCons (sRet (eLk (nw := false) cn 0 (by rfl) (.inr (.inr rfl)) (fun cn => (eE (eT cn cd_tup (by rfl) m.tuple bt_tuple (opC (eO rfl (eB cn (cd_sort cn.u65) (by rfl) m.sorted bt_sorted (opC (eO rfl (eLc cn (pEachD cn rfl (V1 0)) (blkOk_by (own := [("monomial", 1)]) (by kernel_rfl)) rfl rfl (fun _ _ _ _ _ => (G1 1 (by exact cn.nd))) (fun _ _ _ _ _ cn => ifN) (fun _ _ _ _ _ cn => (eTup (vCons (V1 1) (vCons (eE (eB cn (cd_min2 cn.calm) (by rfl) m.min bt_min (opC (eO rfl (eIx cn (eO rfl (V1 0)) (eO rfl (V1 1)))) (opC (eO (nw := false) rfl (eGlo cn kc1 rfl (by rfl))) opN)))) vNil)))))) opN))) opN))))))
  sNil))
theorem sc_1 : FnScope fi_1.N (fi_1.N.take fi_1.np) (defScope fi_1.st) := ⟨rfl, rfl, rfl, by decide +kernel, rfl, by decide +kernel, by decide +kernel⟩
theorem ok_1 {P0 : Program} {w : World} {K : PySem.W.Frag} {mg : Str → Option Value} {base : Heap} {EC : Nat → Option (Addr × Str)} {T : List (Addr × Str)} (D : DefAt K mg fi_1) (m : Mgs mg) (kc0 : ConstAt K mg "MOST_TERMS" (.int 400)) (kc1 : ConstAt K mg "FIRST_TOO_GREAT" (.int 10000000000000000000000000000000000000000000000000000000000000000000000000000000000000000000000000000)) (kc2 : ConstAt K mg "ZERO" (.tuple [])) (kc3 : ConstAt K mg "ONE" (.tuple [(.tuple [(.tuple []), (.int 1)])])) : DefOk P0 w K mg base pgm EC T fi_1 :=
  ⟨let ⟨f, fd, F, hm⟩ := D; ⟨f, fd, [1], F, hm, F.binds (ps := fi_1.N.take fi_1.np) fun _ _ _ _ _ _ us hl => match us, hl with | [_], _ => rfl, sc_1, rfl, fun n cdv A outer s H E _ cn => d_1 m kc0 kc1 kc2 kc3 cn⟩, by decide⟩
theorem d_2 {P0 : Program} {w : World} {K : PySem.W.Frag} {mg : Str → Option Value} {base : Heap} {EC : Nat → Option (Addr × Str)} {T : List (Addr × Str)} {n : Nat} {f : Addr} {cdv : Value} {A : Around} {outer : List Env} {s : Shared} {H : Hp} {E : XK} (m : Mgs mg) (kc0 : ConstAt K mg "MOST_TERMS" (.int 400)) (kc1 : ConstAt K mg "FIRST_TOO_GREAT" (.int 10000000000000000000000000000000000000000000000000000000000000000000000000000000000000000000000000000)) (kc2 : ConstAt K mg "ZERO" (.tuple [])) (kc3 : ConstAt K mg "ONE" (.tuple [(.tuple [(.tuple []), (.int 1)])]))
    (cn : Cn (cx P0 w K mg base fi_2 f cdv A outer s H E) (bdOf ⟨P0, w, K⟩ pgm EC T n fi_2) (fun cls dd _ H' => E cls dd H')) :
    PSs (cx P0 w K mg base fi_2 f cdv A outer s H E) (defBody fi_2.st) (tN (bdOf ⟨P0, w, K⟩ pgm EC T n fi_2) (fun cls dd _ H' => E cls dd H') [0, 1, 2, 3, 4] fi_2.body) :=
  (sCons (sFor cn (ws' := [0, 1, 2, 3, 4]) rfl (pEach cn rfl (eO rfl (V1 0))) (pg_both (by exact cn.calm) (pgs_cons (G1 1 (by exact cn.nd)) (pgs_cons (G1 2 (by exact cn.nd)) pgs_nil))) (sCons (sIf (tOr' (torC (tCm cn (cmp_ge cn.u64) (eO rfl (V1 2)) (eO (nw := false) rfl (eGlo cn kc1 rfl (by rfl))) (nomark _)) (tor1 (tV (eB cn (cd_any cn.calm) (by rfl) m.any bt_any (opC (eO rfl (eLc cn (pEach cn rfl (eO rfl (V1 1))) (blkOk_by (own := [("_", 3), ("exponent", 4)]) (by kernel_rfl)) rfl rfl (fun _ _ _ _ _ => (pg_both (by exact cn.calm) (pgs_cons (G1 3 (by exact cn.nd)) (pgs_cons (G1 4 (by exact cn.nd)) pgs_nil)))) (fun _ _ _ _ _ cn => ifN) (fun _ _ _ _ _ cn => (eE (eCmp cn (cmp_ge cn.u64) (eO rfl (V1 4)) (eO (nw := false) rfl (eGlo cn kc1 rfl (by rfl))) (nomark _)))))) opN)))))) (sCons sStuck
  sNil) sNil)
  sNil))
  (sCons (sRet (V1 0))
  sNil))
theorem sc_2 : FnScope fi_2.N (fi_2.N.take fi_2.np) (defScope fi_2.st) := ⟨rfl, rfl, rfl, by decide +kernel, rfl, by decide +kernel, by decide +kernel⟩
theorem ok_2 {P0 : Program} {w : World} {K : PySem.W.Frag} {mg : Str → Option Value} {base : Heap} {EC : Nat → Option (Addr × Str)} {T : List (Addr × Str)} (D : DefAt K mg fi_2) (m : Mgs mg) (kc0 : ConstAt K mg "MOST_TERMS" (.int 400)) (kc1 : ConstAt K mg "FIRST_TOO_GREAT" (.int 10000000000000000000000000000000000000000000000000000000000000000000000000000000000000000000000000000)) (kc2 : ConstAt K mg "ZERO" (.tuple [])) (kc3 : ConstAt K mg "ONE" (.tuple [(.tuple [(.tuple []), (.int 1)])])) : DefOk P0 w K mg base pgm EC T fi_2 :=
  ⟨let ⟨f, fd, F, hm⟩ := D; ⟨f, fd, [0, 1, 2, 3, 4], F, hm, F.binds (ps := fi_2.N.take fi_2.np) fun _ _ _ _ _ _ us hl => match us, hl with | [_], _ => rfl, sc_2, rfl, fun n cdv A outer s H E _ cn => d_2 m kc0 kc1 kc2 kc3 cn⟩, by decide⟩
theorem d_3 {P0 : Program} {w : World} {K : PySem.W.Frag} {mg : Str → Option Value} {base : Heap} {EC : Nat → Option (Addr × Str)} {T : List (Addr × Str)} {n : Nat} {f : Addr} {cdv : Value} {A : Around} {outer : List Env} {s : Shared} {H : Hp} {E : XK} (m : Mgs mg) (kc0 : ConstAt K mg "MOST_TERMS" (.int 400)) (kc1 : ConstAt K mg "FIRST_TOO_GREAT" (.int 10000000000000000000000000000000000000000000000000000000000000000000000000000000000000000000000000000)) (kc2 : ConstAt K mg "ZERO" (.tuple [])) (kc3 : ConstAt K mg "ONE" (.tuple [(.tuple [(.tuple []), (.int 1)])]))
    (cn : Cn (cx P0 w K mg base fi_3 f cdv A outer s H E) (bdOf ⟨P0, w, K⟩ pgm EC T n fi_3) (fun cls dd _ H' => E cls dd H')) :
    PSs (cx P0 w K mg base fi_3 f cdv A outer s H E) (defBody fi_3.st) (tN (bdOf ⟨P0, w, K⟩ pgm EC T n fi_3) (fun cls dd _ H' => E cls dd H') [0, 1, 2, 3, 4] fi_3.body) :=
  (sCons (sODc cn 2 (swd_true rfl rfl rfl (by decide +kernel)) (pEach cn rfl (eO rfl (V1 0))) (blkOk_by (own := [("token", 3), ("exponent", 4)]) (by kernel_rfl)) rfl rfl (fun _ _ _ _ _ => (pg_both (by exact cn.calm) (pgs_cons (G1 3 (by exact cn.nd)) (pgs_cons (G1 4 (by exact cn.nd)) pgs_nil)))) (fun _ _ _ _ _ cn => ifN) (fun _ _ _ _ _ cn => (V1 3)) (fun _ _ _ _ _ cn => (V1 4)))
  (sCons (sFor cn (ws' := [0, 1, 2, 3, 4]) rfl (pEach cn rfl (eO rfl (V1 1))) (pg_both (by exact cn.calm) (pgs_cons (G1 3 (by exact cn.nd)) (pgs_cons (G1 4 (by exact cn.nd)) pgs_nil))) (sCons (sSetI cn (i := 2) rfl (pv 2) (V1 3) (eE (eBin cn opd_add (eO rfl (eGet cn (pv 2) (vCons (V1 3) (vCons eInt vNil)))) (eO rfl (V1 4)))))
  sNil))
  (sCons (sRet (eE (eT cn cd_tup (by rfl) m.tuple bt_tuple (opC (eO rfl (eB cn (cd_sort cn.u65) (by rfl) m.sorted bt_sorted (opC (eO rfl (eLitems cn (i := 2) rfl (by rfl) m.list bt_list (O1 2))) opN))) opN))))
  sNil)))
theorem sc_3 : FnScope fi_3.N (fi_3.N.take fi_3.np) (defScope fi_3.st) := ⟨rfl, rfl, rfl, by decide +kernel, rfl, by decide +kernel, by decide +kernel⟩
theorem ok_3 {P0 : Program} {w : World} {K : PySem.W.Frag} {mg : Str → Option Value} {base : Heap} {EC : Nat → Option (Addr × Str)} {T : List (Addr × Str)} (D : DefAt K mg fi_3) (m : Mgs mg) (kc0 : ConstAt K mg "MOST_TERMS" (.int 400)) (kc1 : ConstAt K mg "FIRST_TOO_GREAT" (.int 10000000000000000000000000000000000000000000000000000000000000000000000000000000000000000000000000000)) (kc2 : ConstAt K mg "ZERO" (.tuple [])) (kc3 : ConstAt K mg "ONE" (.tuple [(.tuple [(.tuple []), (.int 1)])])) : DefOk P0 w K mg base pgm EC T fi_3 :=
  ⟨let ⟨f, fd, F, hm⟩ := D; ⟨f, fd, [0, 1, 2, 3, 4], F, hm, F.binds (ps := fi_3.N.take fi_3.np) fun _ _ _ _ _ _ us hl => match us, hl with | [_, _], _ => rfl, sc_3, rfl, fun n cdv A outer s H E _ cn => d_3 m kc0 kc1 kc2 kc3 cn⟩, by decide⟩
theorem d_4 {P0 : Program} {w : World} {K : PySem.W.Frag} {mg : Str → Option Value} {base : Heap} {EC : Nat → Option (Addr × Str)} {T : List (Addr × Str)} {n : Nat} {f : Addr} {cdv : Value} {A : Around} {outer : List Env} {s : Shared} {H : Hp} {E : XK} (m : Mgs mg) (kc0 : ConstAt K mg "MOST_TERMS" (.int 400)) (kc1 : ConstAt K mg "FIRST_TOO_GREAT" (.int 10000000000000000000000000000000000000000000000000000000000000000000000000000000000000000000000000000)) (kc2 : ConstAt K mg "ZERO" (.tuple [])) (kc3 : ConstAt K mg "ONE" (.tuple [(.tuple [(.tuple []), (.int 1)])]))
    (cn : Cn (cx P0 w K mg base fi_4 f cdv A outer s H E) (bdOf ⟨P0, w, K⟩ pgm EC T n fi_4) (fun cls dd _ H' => E cls dd H')) :
    PSs (cx P0 w K mg base fi_4 f cdv A outer s H E) (defBody fi_4.st) (tN (bdOf ⟨P0, w, K⟩ pgm EC T n fi_4) (fun cls dd _ H' => E cls dd H') [0, 1] fi_4.body) :=
  (sCons (sRet (eCall cn rfl (f := 2) (fi := fi_2) rfl rfl (by rfl) rfl rfl (opC (eO rfl (eCall cn rfl (f := 6) (fi := fi_6) rfl rfl (by rfl) rfl rfl (opC (eO rfl (V1 0)) (opC (eO rfl (V1 1)) opN)))) opN)))
  sNil)
theorem sc_4 : FnScope fi_4.N (fi_4.N.take fi_4.np) (defScope fi_4.st) := ⟨rfl, rfl, rfl, by decide +kernel, rfl, by decide +kernel, by decide +kernel⟩
theorem ok_4 {P0 : Program} {w : World} {K : PySem.W.Frag} {mg : Str → Option Value} {base : Heap} {EC : Nat → Option (Addr × Str)} {T : List (Addr × Str)} (D : DefAt K mg fi_4) (m : Mgs mg) (kc0 : ConstAt K mg "MOST_TERMS" (.int 400)) (kc1 : ConstAt K mg "FIRST_TOO_GREAT" (.int 10000000000000000000000000000000000000000000000000000000000000000000000000000000000000000000000000000)) (kc2 : ConstAt K mg "ZERO" (.tuple [])) (kc3 : ConstAt K mg "ONE" (.tuple [(.tuple [(.tuple []), (.int 1)])])) : DefOk P0 w K mg base pgm EC T fi_4 :=
  ⟨let ⟨f, fd, F, hm⟩ := D; ⟨f, fd, [0, 1], F, hm, F.binds (ps := fi_4.N.take fi_4.np) fun _ _ _ _ _ _ us hl => match us, hl with | [_, _], _ => rfl, sc_4, rfl, fun n cdv A outer s H E _ cn => d_4 m kc0 kc1 kc2 kc3 cn⟩, by decide⟩
theorem d_5 {P0 : Program} {w : World} {K : PySem.W.Frag} {mg : Str → Option Value} {base : Heap} {EC : Nat → Option (Addr × Str)} {T : List (Addr × Str)} {n : Nat} {f : Addr} {cdv : Value} {A : Around} {outer : List Env} {s : Shared} {H : Hp} {E : XK} (m : Mgs mg) (kc0 : ConstAt K mg "MOST_TERMS" (.int 400)) (kc1 : ConstAt K mg "FIRST_TOO_GREAT" (.int 10000000000000000000000000000000000000000000000000000000000000000000000000000000000000000000000000000)) (kc2 : ConstAt K mg "ZERO" (.tuple [])) (kc3 : ConstAt K mg "ONE" (.tuple [(.tuple [(.tuple []), (.int 1)])]))
    (cn : Cn (cx P0 w K mg base fi_5 f cdv A outer s H E) (bdOf ⟨P0, w, K⟩ pgm EC T n fi_5) (fun cls dd _ H' => E cls dd H')) :
    PSs (cx P0 w K mg base fi_5 f cdv A outer s H E) (defBody fi_5.st) (tN (bdOf ⟨P0, w, K⟩ pgm EC T n fi_5) (fun cls dd _ H' => E cls dd H') [0, 1] fi_5.body) :=
  (sCons (sRet (eCall cn rfl (f := 2) (fi := fi_2) rfl rfl (by rfl) rfl rfl (opC (eO rfl (eCall cn rfl (f := 7) (fi := fi_7) rfl rfl (by rfl) rfl rfl (opC (eO rfl (V1 0)) (opC (eO rfl (V1 1)) opN)))) opN)))
  sNil)
theorem sc_5 : FnScope fi_5.N (fi_5.N.take fi_5.np) (defScope fi_5.st) := ⟨rfl, rfl, rfl, by decide +kernel, rfl, by decide +kernel, by decide +kernel⟩
theorem ok_5 {P0 : Program} {w : World} {K : PySem.W.Frag} {mg : Str → Option Value} {base : Heap} {EC : Nat → Option (Addr × Str)} {T : List (Addr × Str)} (D : DefAt K mg fi_5) (m : Mgs mg) (kc0 : ConstAt K mg "MOST_TERMS" (.int 400)) (kc1 : ConstAt K mg "FIRST_TOO_GREAT" (.int 10000000000000000000000000000000000000000000000000000000000000000000000000000000000000000000000000000)) (kc2 : ConstAt K mg "ZERO" (.tuple [])) (kc3 : ConstAt K mg "ONE" (.tuple [(.tuple [(.tuple []), (.int 1)])])) : DefOk P0 w K mg base pgm EC T fi_5 :=
  ⟨let ⟨f, fd, F, hm⟩ := D; ⟨f, fd, [0, 1], F, hm, F.binds (ps := fi_5.N.take fi_5.np) fun _ _ _ _ _ _ us hl => match us, hl with | [_, _], _ => rfl, sc_5, rfl, fun n cdv A outer s H E _ cn => d_5 m kc0 kc1 kc2 kc3 cn⟩, by decide⟩
theorem d_6 {P0 : Program} {w : World} {K : PySem.W.Frag} {mg : Str → Option Value} {base : Heap} {EC : Nat → Option (Addr × Str)} {T : List (Addr × Str)} {n : Nat} {f : Addr} {cdv : Value} {A : Around} {outer : List Env} {s : Shared} {H : Hp} {E : XK} (m : Mgs mg) (kc0 : ConstAt K mg "MOST_TERMS" (.int 400)) (kc1 : ConstAt K mg "FIRST_TOO_GREAT" (.int 10000000000000000000000000000000000000000000000000000000000000000000000000000000000000000000000000000)) (kc2 : ConstAt K mg "ZERO" (.tuple [])) (kc3 : ConstAt K mg "ONE" (.tuple [(.tuple [(.tuple []), (.int 1)])]))
    (cn : Cn (cx P0 w K mg base fi_6 f cdv A outer s H E) (bdOf ⟨P0, w, K⟩ pgm EC T n fi_6) (fun cls dd _ H' => E cls dd H')) :
    PSs (cx P0 w K mg base fi_6 f cdv A outer s H E) (defBody fi_6.st) (tN (bdOf ⟨P0, w, K⟩ pgm EC T n fi_6) (fun cls dd _ H' => E cls dd H') [0, 1, 2, 3, 4] fi_6.body) :=
  (sCons (sO cn 2 eDic)
  (sCons (sFor cn (ws' := [0, 1, 2, 3, 4]) rfl (pEach cn rfl (eO rfl (eBin cn opd_add (eO rfl (eCall cn rfl (f := 0) (fi := fi_0) rfl rfl (by rfl) rfl rfl (opC (eO rfl (V1 0)) opN))) (eO rfl (eCall cn rfl (f := 0) (fi := fi_0) rfl rfl (by rfl) rfl rfl (opC (eO rfl (V1 1)) opN)))))) (pg_both (by exact cn.calm) (pgs_cons (G1 3 (by exact cn.nd)) (pgs_cons (G1 4 (by exact cn.nd)) pgs_nil))) (sCons (sSetI cn (i := 2) rfl (pv 2) (V1 3) (eE (eBin cn opd_add (eO rfl (eGet cn (pv 2) (vCons (V1 3) (vCons eInt vNil)))) (eO rfl (V1 4)))))
  sNil))
  (sCons (sRet (eCall cn rfl (f := 1) (fi := fi_1) rfl rfl (by rfl) rfl rfl (opC (O1 2) opN)))
  sNil)))
theorem sc_6 : FnScope fi_6.N (fi_6.N.take fi_6.np) (defScope fi_6.st) := ⟨rfl, rfl, rfl, by decide +kernel, rfl, by decide +kernel, by decide +kernel⟩
theorem ok_6 {P0 : Program} {w : World} {K : PySem.W.Frag} {mg : Str → Option Value} {base : Heap} {EC : Nat → Option (Addr × Str)} {T : List (Addr × Str)} (D : DefAt K mg fi_6) (m : Mgs mg) (kc0 : ConstAt K mg "MOST_TERMS" (.int 400)) (kc1 : ConstAt K mg "FIRST_TOO_GREAT" (.int 10000000000000000000000000000000000000000000000000000000000000000000000000000000000000000000000000000)) (kc2 : ConstAt K mg "ZERO" (.tuple [])) (kc3 : ConstAt K mg "ONE" (.tuple [(.tuple [(.tuple []), (.int 1)])])) : DefOk P0 w K mg base pgm EC T fi_6 :=
  ⟨let ⟨f, fd, F, hm⟩ := D; ⟨f, fd, [0, 1, 2, 3, 4], F, hm, F.binds (ps := fi_6.N.take fi_6.np) fun _ _ _ _ _ _ us hl => match us, hl with | [_, _], _ => rfl, sc_6, rfl, fun n cdv A outer s H E _ cn => d_6 m kc0 kc1 kc2 kc3 cn⟩, by decide⟩
theorem d_7 {P0 : Program} {w : World} {K : PySem.W.Frag} {mg : Str → Option Value} {base : Heap} {EC : Nat → Option (Addr × Str)} {T : List (Addr × Str)} {n : Nat} {f : Addr} {cdv : Value} {A : Around} {outer : List Env} {s : Shared} {H : Hp} {E : XK} (m : Mgs mg) (kc0 : ConstAt K mg "MOST_TERMS" (.int 400)) (kc1 : ConstAt K mg "FIRST_TOO_GREAT" (.int 10000000000000000000000000000000000000000000000000000000000000000000000000000000000000000000000000000)) (kc2 : ConstAt K mg "ZERO" (.tuple [])) (kc3 : ConstAt K mg "ONE" (.tuple [(.tuple [(.tuple []), (.int 1)])]))
    (cn : Cn (cx P0 w K mg base fi_7 f cdv A outer s H E) (bdOf ⟨P0, w, K⟩ pgm EC T n fi_7) (fun cls dd _ H' => E cls dd H')) :
    PSs (cx P0 w K mg base fi_7 f cdv A outer s H E) (defBody fi_7.st) (tN (bdOf ⟨P0, w, K⟩ pgm EC T n fi_7) (fun cls dd _ H' => E cls dd H') [0, 1, 2, 3, 4, 5, 6, 7, 8] fi_7.body) :=
  (sCons (sO cn 2 eDic)
  (sCons (sV cn 3 (eCall cn rfl (f := 0) (fi := fi_0) rfl rfl (by rfl) rfl rfl (opC (eO rfl (V1 1)) opN)))
  (sCons (sFor cn (ws' := [0, 1, 2, 3, 4, 5, 6, 7, 8]) rfl (pEach cn rfl (eO rfl (eCall cn rfl (f := 0) (fi := fi_0) rfl rfl (by rfl) rfl rfl (opC (eO rfl (V1 0)) opN)))) (pg_both (by exact cn.calm) (pgs_cons (G1 4 (by exact cn.nd)) (pgs_cons (G1 5 (by exact cn.nd)) pgs_nil))) (sCons (sFor cn (ws' := [0, 1, 2, 3, 4, 5, 6, 7, 8]) rfl (pEach cn rfl (eO rfl (V1 3))) (pg_both (by exact cn.calm) (pgs_cons (G1 6 (by exact cn.nd)) (pgs_cons (G1 7 (by exact cn.nd)) pgs_nil))) (sCons (sV cn 8 (eCall cn rfl (f := 3) (fi := fi_3) rfl rfl (by rfl) rfl rfl (opC (eO rfl (V1 4)) (opC (eO rfl (V1 6)) opN))))
  (sCons (sSetI cn (i := 2) rfl (pv 2) (V1 8) (eE (eBin cn opd_add (eO rfl (eGet cn (pv 2) (vCons (V1 8) (vCons eInt vNil)))) (eO rfl (eBin cn opd_mul (eO rfl (V1 5)) (eO rfl (V1 7)))))))
  sNil)))
  (sCons (sExp (eCall cn rfl (f := 1) (fi := fi_1) rfl rfl (by rfl) rfl rfl (opC (O1 2) opN)))
  sNil)))
  (sCons (sRet (eCall cn rfl (f := 1) (fi := fi_1) rfl rfl (by rfl) rfl rfl (opC (O1 2) opN)))
  sNil))))
theorem sc_7 : FnScope fi_7.N (fi_7.N.take fi_7.np) (defScope fi_7.st) := ⟨rfl, rfl, rfl, by decide +kernel, rfl, by decide +kernel, by decide +kernel⟩
theorem ok_7 {P0 : Program} {w : World} {K : PySem.W.Frag} {mg : Str → Option Value} {base : Heap} {EC : Nat → Option (Addr × Str)} {T : List (Addr × Str)} (D : DefAt K mg fi_7) (m : Mgs mg) (kc0 : ConstAt K mg "MOST_TERMS" (.int 400)) (kc1 : ConstAt K mg "FIRST_TOO_GREAT" (.int 10000000000000000000000000000000000000000000000000000000000000000000000000000000000000000000000000000)) (kc2 : ConstAt K mg "ZERO" (.tuple [])) (kc3 : ConstAt K mg "ONE" (.tuple [(.tuple [(.tuple []), (.int 1)])])) : DefOk P0 w K mg base pgm EC T fi_7 :=
  ⟨let ⟨f, fd, F, hm⟩ := D; ⟨f, fd, [0, 1, 2, 3, 4, 5, 6, 7, 8], F, hm, F.binds (ps := fi_7.N.take fi_7.np) fun _ _ _ _ _ _ us hl => match us, hl with | [_, _], _ => rfl, sc_7, rfl, fun n cdv A outer s H E _ cn => d_7 m kc0 kc1 kc2 kc3 cn⟩, by decide⟩
theorem d_8 {P0 : Program} {w : World} {K : PySem.W.Frag} {mg : Str → Option Value} {base : Heap} {EC : Nat → Option (Addr × Str)} {T : List (Addr × Str)} {n : Nat} {f : Addr} {cdv : Value} {A : Around} {outer : List Env} {s : Shared} {H : Hp} {E : XK} (m : Mgs mg) (kc0 : ConstAt K mg "MOST_TERMS" (.int 400)) (kc1 : ConstAt K mg "FIRST_TOO_GREAT" (.int 10000000000000000000000000000000000000000000000000000000000000000000000000000000000000000000000000000)) (kc2 : ConstAt K mg "ZERO" (.tuple [])) (kc3 : ConstAt K mg "ONE" (.tuple [(.tuple [(.tuple []), (.int 1)])]))
    (cn : Cn (cx P0 w K mg base fi_8 f cdv A outer s H E) (bdOf ⟨P0, w, K⟩ pgm EC T n fi_8) (fun cls dd _ H' => E cls dd H')) :
    PSs (cx P0 w K mg base fi_8 f cdv A outer s H E) (defBody fi_8.st) (tN (bdOf ⟨P0, w, K⟩ pgm EC T n fi_8) (fun cls dd _ H' => E cls dd H') [0, 1, 2] fi_8.body) :=
  (sCons (sV cn 2 (eE (eBin cn opd_mod (eO rfl (eT cn cd_int (by rfl) m.int bt_int (opC (eO rfl (eBin cn opd_add (eO rfl (eBin cn opd_add (eO rfl (eBin cn opd_mul (eO rfl (V1 0)) (eO (nw := false) rfl eInt))) (eO rfl (eBin cn opd_mul (eO rfl (V1 1)) (eO (nw := false) rfl eInt))))) (eO (nw := false) rfl eInt))) opN))) (eO (nw := false) rfl eInt))))
  (sCons (sRet (eE (eBin cn opd_mod (eO rfl (eT cn cd_int (by rfl) m.int bt_int (opC (eO rfl (eBin cn opd_add (eO rfl (eBin cn opd_add (eO rfl (eBin cn opd_mul (eO rfl (V1 2)) (eO rfl (V1 2)))) (eO rfl (eBin cn opd_mul (eO rfl (V1 2)) (eO (nw := false) rfl eInt))))) (eO rfl (eBin cn opd_mul (eO rfl (V1 1)) (eO (nw := false) rfl eInt))))) opN))) (eO (nw := false) rfl eInt))))
  sNil))
theorem sc_8 : FnScope fi_8.N (fi_8.N.take fi_8.np) (defScope fi_8.st) := ⟨rfl, rfl, rfl, by decide +kernel, rfl, by decide +kernel, by decide +kernel⟩
theorem ok_8 {P0 : Program} {w : World} {K : PySem.W.Frag} {mg : Str → Option Value} {base : Heap} {EC : Nat → Option (Addr × Str)} {T : List (Addr × Str)} (D : DefAt K mg fi_8) (m : Mgs mg) (kc0 : ConstAt K mg "MOST_TERMS" (.int 400)) (kc1 : ConstAt K mg "FIRST_TOO_GREAT" (.int 10000000000000000000000000000000000000000000000000000000000000000000000000000000000000000000000000000)) (kc2 : ConstAt K mg "ZERO" (.tuple [])) (kc3 : ConstAt K mg "ONE" (.tuple [(.tuple [(.tuple []), (.int 1)])])) : DefOk P0 w K mg base pgm EC T fi_8 :=
  ⟨let ⟨f, fd, F, hm⟩ := D; ⟨f, fd, [0, 1, 2], F, hm, F.binds (ps := fi_8.N.take fi_8.np) fun _ _ _ _ _ _ us hl => match us, hl with | [_, _], _ => rfl, sc_8, rfl, fun n cdv A outer s H E _ cn => d_8 m kc0 kc1 kc2 kc3 cn⟩, by decide⟩
theorem d_9 {P0 : Program} {w : World} {K : PySem.W.Frag} {mg : Str → Option Value} {base : Heap} {EC : Nat → Option (Addr × Str)} {T : List (Addr × Str)} {n : Nat} {f : Addr} {cdv : Value} {A : Around} {outer : List Env} {s : Shared} {H : Hp} {E : XK} (m : Mgs mg) (kc0 : ConstAt K mg "MOST_TERMS" (.int 400)) (kc1 : ConstAt K mg "FIRST_TOO_GREAT" (.int 10000000000000000000000000000000000000000000000000000000000000000000000000000000000000000000000000000)) (kc2 : ConstAt K mg "ZERO" (.tuple [])) (kc3 : ConstAt K mg "ONE" (.tuple [(.tuple [(.tuple []), (.int 1)])]))
    (cn : Cn (cx P0 w K mg base fi_9 f cdv A outer s H E) (bdOf ⟨P0, w, K⟩ pgm EC T n fi_9) (fun cls dd _ H' => E cls dd H')) :
    PSs (cx P0 w K mg base fi_9 f cdv A outer s H E) (defBody fi_9.st) (tN (bdOf ⟨P0, w, K⟩ pgm EC T n fi_9) (fun cls dd _ H' => E cls dd H') [0, 1, 2] fi_9.body) :=
  (sCons (sRet (eLst (vCons eInt (vCons eInt (vCons (V1 1) (vCons eInt (vCons (V1 1) (vCons (eE (eLc cn (pEach cn rfl (eO rfl (V1 0))) (blkOk_by (own := [("_law_cell", 2)]) (by kernel_rfl)) rfl rfl (fun _ _ _ _ _ => (G1 2 (by exact cn.nd))) (fun _ _ _ _ _ cn => ifN) (fun _ _ _ _ _ cn => (eE (eT cn cd_int (by rfl) m.int bt_int (opC (eO rfl (V1 2)) opN)))))) vNil))))))))
  sNil)
theorem sc_9 : FnScope fi_9.N (fi_9.N.take fi_9.np) (defScope fi_9.st) := ⟨rfl, rfl, rfl, by decide +kernel, rfl, by decide +kernel, by decide +kernel⟩
theorem ok_9 {P0 : Program} {w : World} {K : PySem.W.Frag} {mg : Str → Option Value} {base : Heap} {EC : Nat → Option (Addr × Str)} {T : List (Addr × Str)} (D : DefAt K mg fi_9) (m : Mgs mg) (kc0 : ConstAt K mg "MOST_TERMS" (.int 400)) (kc1 : ConstAt K mg "FIRST_TOO_GREAT" (.int 10000000000000000000000000000000000000000000000000000000000000000000000000000000000000000000000000000)) (kc2 : ConstAt K mg "ZERO" (.tuple [])) (kc3 : ConstAt K mg "ONE" (.tuple [(.tuple [(.tuple []), (.int 1)])])) : DefOk P0 w K mg base pgm EC T fi_9 :=
  ⟨let ⟨f, fd, F, hm⟩ := D; ⟨f, fd, [0, 1, 2], F, hm, F.binds (ps := fi_9.N.take fi_9.np) fun _ _ _ _ _ _ us hl => match us, hl with | [_, _], _ => rfl, sc_9, rfl, fun n cdv A outer s H E _ cn => d_9 m kc0 kc1 kc2 kc3 cn⟩, by decide⟩
theorem d_10 {P0 : Program} {w : World} {K : PySem.W.Frag} {mg : Str → Option Value} {base : Heap} {EC : Nat → Option (Addr × Str)} {T : List (Addr × Str)} {n : Nat} {f : Addr} {cdv : Value} {A : Around} {outer : List Env} {s : Shared} {H : Hp} {E : XK} (m : Mgs mg) (kc0 : ConstAt K mg "MOST_TERMS" (.int 400)) (kc1 : ConstAt K mg "FIRST_TOO_GREAT" (.int 10000000000000000000000000000000000000000000000000000000000000000000000000000000000000000000000000000)) (kc2 : ConstAt K mg "ZERO" (.tuple [])) (kc3 : ConstAt K mg "ONE" (.tuple [(.tuple [(.tuple []), (.int 1)])]))
    (cn : Cn (cx P0 w K mg base fi_10 f cdv A outer s H E) (bdOf ⟨P0, w, K⟩ pgm EC T n fi_10) (fun cls dd _ H' => E cls dd H')) :
    PSs (cx P0 w K mg base fi_10 f cdv A outer s H E) (defBody fi_10.st) (tN (bdOf ⟨P0, w, K⟩ pgm EC T n fi_10) (fun cls dd _ H' => E cls dd H') [1, 2, 3] fi_10.body) :=
  (sCons (sIf (tAnd' (tanC (tCm cn (cmp_eq cn.u64) (eO rfl (eIx cn (O1 0) (eO (nw := false) rfl eInt))) (eO (nw := false) rfl eInt) (nomark _)) (tan1 (tCm cn (cmp_lt cn.u64) (eO rfl (eIx cn (O1 0) (eO (nw := false) rfl eInt))) (eO rfl (eB cn cd_len (by rfl) m.len bt_len (opC (eO rfl (eIx cn (O1 0) (eO (nw := false) rfl eInt))) opN))) (nomark _))))) (sCons (sV cn 2 (eIx cn (eO rfl (eIx cn (O1 0) (eO (nw := false) rfl eInt))) (eO rfl (eIx cn (O1 0) (eO (nw := false) rfl eInt)))))
  (sCons (sSetI cn (i := 0) rfl (pv 0) eInt (eE (eBin cn opd_add (eO rfl (eIx cn (O1 0) (eO (nw := false) rfl eInt))) (eO (nw := false) rfl eInt))))
  (sCons (sSetI cn (i := 0) rfl (pv 0) eInt (eE (eBin cn opd_mod (eO rfl (eT cn cd_int (by rfl) m.int bt_int (opC (eO rfl (eBin cn opd_add (eO rfl (eBin cn opd_mul (eO rfl (eIx cn (O1 0) (eO (nw := false) rfl eInt))) (eO (nw := false) rfl eInt))) (eO rfl (V1 2)))) opN))) (eO (nw := false) rfl eInt))))
  (sCons (sIf (tCm cn (cmp_ge cn.u64) (eO rfl (V1 2)) (eO rfl (eBin cn opd_pow (eO (nw := false) rfl eInt) (eO (nw := false) rfl eInt))) (nomark _)) (sCons (sSetI cn (i := 0) rfl (pv 0) eInt (eE (eBin cn opd_sub (eO rfl (V1 2)) (eO rfl (eBin cn opd_pow (eO (nw := false) rfl eInt) (eO (nw := false) rfl eInt))))))
  (sCons (sSetI cn (i := 0) rfl (pv 0) eInt eInt)
  sNil)) sNil)
  sNil)))) sNil)
  (sCons (sIf (tAnd' (tanC (tCm cn (cmp_gt cn.u64) (eO rfl (eIx cn (O1 0) (eO (nw := false) rfl eInt))) (eO (nw := false) rfl eInt) (nomark _)) (tan1 (tCm cn (cmp_gt cn.u64) (eO rfl (eIx cn (O1 0) (eO (nw := false) rfl eInt))) (eO (nw := false) rfl eInt) (nomark _))))) (sCons (sV cn 3 (eE (eBin cn opd_mod (eO rfl (eT cn cd_int (by rfl) m.int bt_int (opC (eO rfl (eIx cn (O1 0) (eO (nw := false) rfl eInt))) opN))) (eO rfl (V1 1)))))
  (sCons (sSetI cn (i := 0) rfl (pv 0) eInt (eE (eBin cn opd_fdiv (eO rfl (eIx cn (O1 0) (eO (nw := false) rfl eInt))) (eO rfl (V1 1)))))
  (sCons (sSetI cn (i := 0) rfl (pv 0) eInt (eE (eBin cn opd_sub (eO rfl (eIx cn (O1 0) (eO (nw := false) rfl eInt))) (eO (nw := false) rfl eInt))))
  (sCons (sRet (V1 3))
  sNil)))) sNil)
  (sCons (sSetI cn (i := 0) rfl (pv 0) eInt eInt)
  (sCons (sSetI cn (i := 0) rfl (pv 0) eInt (eE (eBin cn opd_add (eO rfl (eIx cn (O1 0) (eO (nw := false) rfl eInt))) (eO (nw := false) rfl eInt))))
  (sCons (sRet (eE (eBin cn opd_mod (eO rfl (eT cn cd_int (by rfl) m.int bt_int (opC (eO rfl (eCall cn rfl (f := 8) (fi := fi_8) rfl rfl (by rfl) rfl rfl (opC (eO rfl (eIx cn (O1 0) (eO (nw := false) rfl eInt))) (opC (eO rfl (eIx cn (O1 0) (eO (nw := false) rfl eInt))) opN)))) opN))) (eO rfl (V1 1)))))
  sNil)))))
theorem sc_10 : FnScope fi_10.N (fi_10.N.take fi_10.np) (defScope fi_10.st) := ⟨rfl, rfl, rfl, by decide +kernel, rfl, by decide +kernel, by decide +kernel⟩
theorem ok_10 {P0 : Program} {w : World} {K : PySem.W.Frag} {mg : Str → Option Value} {base : Heap} {EC : Nat → Option (Addr × Str)} {T : List (Addr × Str)} (D : DefAt K mg fi_10) (m : Mgs mg) (kc0 : ConstAt K mg "MOST_TERMS" (.int 400)) (kc1 : ConstAt K mg "FIRST_TOO_GREAT" (.int 10000000000000000000000000000000000000000000000000000000000000000000000000000000000000000000000000000)) (kc2 : ConstAt K mg "ZERO" (.tuple [])) (kc3 : ConstAt K mg "ONE" (.tuple [(.tuple [(.tuple []), (.int 1)])])) : DefOk P0 w K mg base pgm EC T fi_10 :=
  ⟨let ⟨f, fd, F, hm⟩ := D; ⟨f, fd, [1, 2, 3], F, hm, F.binds (ps := fi_10.N.take fi_10.np) fun _ _ _ _ _ _ us hl => match us, hl with | [_, _], _ => rfl, sc_10, rfl, fun n cdv A outer s H E _ cn => d_10 m kc0 kc1 kc2 kc3 cn⟩, by decide⟩
theorem d_11 {P0 : Program} {w : World} {K : PySem.W.Frag} {mg : Str → Option Value} {base : Heap} {EC : Nat → Option (Addr × Str)} {T : List (Addr × Str)} {n : Nat} {f : Addr} {cdv : Value} {A : Around} {outer : List Env} {s : Shared} {H : Hp} {E : XK} (m : Mgs mg) (kc0 : ConstAt K mg "MOST_TERMS" (.int 400)) (kc1 : ConstAt K mg "FIRST_TOO_GREAT" (.int 10000000000000000000000000000000000000000000000000000000000000000000000000000000000000000000000000000)) (kc2 : ConstAt K mg "ZERO" (.tuple [])) (kc3 : ConstAt K mg "ONE" (.tuple [(.tuple [(.tuple []), (.int 1)])]))
    (cn : Cn (cx P0 w K mg base fi_11 f cdv A outer s H E) (bdOf ⟨P0, w, K⟩ pgm EC T n fi_11) (fun cls dd _ H' => E cls dd H')) :
    PSs (cx P0 w K mg base fi_11 f cdv A outer s H E) (defBody fi_11.st) (tN (bdOf ⟨P0, w, K⟩ pgm EC T n fi_11) (fun cls dd _ H' => E cls dd H') [0, 1, 2] fi_11.body) :=
  (sCons (sIf (tV (nw := false) (eIsa cn (ts := [4, 3]) (by decide) (by rfl) m.isinstance (eO rfl (V1 1)) (pe_tup (pa_cons (pe_bltn (v := .ty (tyN 4)) (by rfl) m.tuple bt_tuple rfl) (pa_cons (pe_bltn (v := .ty (tyN 3)) (by rfl) m.list bt_list rfl) pa_nil))) isa2 rfl rfl)) (sCons (sIf (tOr' (torC (tCm cn (cmp_ne cn.u64) (eO (nw := false) rfl (eIsa cn (ts := [4]) (by decide) (by rfl) m.isinstance (eO rfl (V1 0)) (pe_bltn (v := .ty (tyN 4)) (by rfl) m.tuple bt_tuple rfl) isaN rfl rfl)) (eO (nw := false) rfl (eIsa cn (ts := [4]) (by decide) (by rfl) m.isinstance (eO rfl (V1 1)) (pe_bltn (v := .ty (tyN 4)) (by rfl) m.tuple bt_tuple rfl) isaN rfl rfl)) (nomark _)) (tor1 (tCm cn (cmp_ne cn.u64) (eO (nw := false) rfl (eIsa cn (ts := [3]) (by decide) (by rfl) m.isinstance (eO rfl (V1 0)) (pe_bltn (v := .ty (tyN 3)) (by rfl) m.list bt_list rfl) isaN rfl rfl)) (eO (nw := false) rfl (eIsa cn (ts := [3]) (by decide) (by rfl) m.isinstance (eO rfl (V1 1)) (pe_bltn (v := .ty (tyN 3)) (by rfl) m.list bt_list rfl) isaN rfl rfl)) (nomark _))))) (sCons (sRet eBl)
  sNil) sNil)
  (sCons (sIf (tCm cn (cmp_ne cn.u64) (eO rfl (eB cn cd_len (by rfl) m.len bt_len (opC (eO rfl (V1 0)) opN))) (eO rfl (eB cn cd_len (by rfl) m.len bt_len (opC (eO rfl (V1 1)) opN))) (nomark _)) (sCons (sRet eBl)
  sNil) sNil)
  (sCons (sFor cn (ws' := [0, 1, 2]) rfl (pRng1 (by rfl) m.range rfl (eO rfl (eB cn cd_len (by rfl) m.len bt_len (opC (eO rfl (V1 1)) opN)))) (G1 2 (by exact cn.nd)) (sCons (sIf (tNo (tV (eCall cn rfl (f := 11) (fi := fi_11) rfl rfl (by rfl) rfl rfl (opC (eO rfl (eIx cn (eO rfl (V1 0)) (eO rfl (V1 2)))) (opC (eO rfl (eIx cn (eO rfl (V1 1)) (eO rfl (V1 2)))) opN))))) (sCons (sRet eBl)
  sNil) sNil)
  sNil))
  (sCons (sRet eBl)
  sNil)))) sNil)
  (sCons (sIf (tIsN (eO rfl (V1 1))) (sCons (sRet (eIsN (eO rfl (V1 0))))
  sNil) sNil)
  (sCons (sIf (tV (nw := false) (eIsa cn (ts := [1]) (by decide) (by rfl) m.isinstance (eO rfl (V1 1)) (pe_bltn (v := .ty (tyN 1)) (by rfl) m.bool bt_bool rfl) isaN rfl rfl)) (sCons (sRet (eAnd (anC (eIsa cn (ts := [1]) (by decide) (by rfl) m.isinstance (eO rfl (V1 0)) (pe_bltn (v := .ty (tyN 1)) (by rfl) m.bool bt_bool rfl) isaN rfl rfl) (an1 (eE (eCmp cn (cmp_eq cn.u64) (eO rfl (V1 0)) (eO rfl (V1 1)) (nomark _)))))))
  sNil) sNil)
  (sCons (sIf (tV (nw := false) (eIsa cn (ts := [2]) (by decide) (by rfl) m.isinstance (eO rfl (V1 1)) (pe_bltn (v := .ty (tyN 2)) (by rfl) m.str bt_str rfl) isaN rfl rfl)) (sCons (sRet (eAnd (anC (eIsa cn (ts := [2]) (by decide) (by rfl) m.isinstance (eO rfl (V1 0)) (pe_bltn (v := .ty (tyN 2)) (by rfl) m.str bt_str rfl) isaN rfl rfl) (an1 (eE (eCmp cn (cmp_eq cn.u64) (eO rfl (V1 0)) (eO rfl (V1 1)) (nomark _)))))))
  sNil) sNil)
  (sCons (sRet (eAnd (anC (eIsa cn (ts := [0]) (by decide) (by rfl) m.isinstance (eO rfl (V1 0)) (pe_bltn (v := .ty (tyN 0)) (by rfl) m.int bt_int rfl) isaN rfl rfl) (anC (eNot (eIsa cn (ts := [1]) (by decide) (by rfl) m.isinstance (eO rfl (V1 0)) (pe_bltn (v := .ty (tyN 1)) (by rfl) m.bool bt_bool rfl) isaN rfl rfl)) (an1 (eE (eCmp cn (cmp_eq cn.u64) (eO rfl (V1 0)) (eO rfl (V1 1)) (nomark _))))))))
  sNil)))))
theorem sc_11 : FnScope fi_11.N (fi_11.N.take fi_11.np) (defScope fi_11.st) := ⟨rfl, rfl, rfl, by decide +kernel, rfl, by decide +kernel, by decide +kernel⟩
theorem ok_11 {P0 : Program} {w : World} {K : PySem.W.Frag} {mg : Str → Option Value} {base : Heap} {EC : Nat → Option (Addr × Str)} {T : List (Addr × Str)} (D : DefAt K mg fi_11) (m : Mgs mg) (kc0 : ConstAt K mg "MOST_TERMS" (.int 400)) (kc1 : ConstAt K mg "FIRST_TOO_GREAT" (.int 10000000000000000000000000000000000000000000000000000000000000000000000000000000000000000000000000000)) (kc2 : ConstAt K mg "ZERO" (.tuple [])) (kc3 : ConstAt K mg "ONE" (.tuple [(.tuple [(.tuple []), (.int 1)])])) : DefOk P0 w K mg base pgm EC T fi_11 :=
  ⟨let ⟨f, fd, F, hm⟩ := D; ⟨f, fd, [0, 1, 2], F, hm, F.binds (ps := fi_11.N.take fi_11.np) fun _ _ _ _ _ _ us hl => match us, hl with | [_, _], _ => rfl, sc_11, rfl, fun n cdv A outer s H E _ cn => d_11 m kc0 kc1 kc2 kc3 cn⟩, by decide⟩
theorem d_12 {P0 : Program} {w : World} {K : PySem.W.Frag} {mg : Str → Option Value} {base : Heap} {EC : Nat → Option (Addr × Str)} {T : List (Addr × Str)} {n : Nat} {f : Addr} {cdv : Value} {A : Around} {outer : List Env} {s : Shared} {H : Hp} {E : XK} (m : Mgs mg) (kc0 : ConstAt K mg "MOST_TERMS" (.int 400)) (kc1 : ConstAt K mg "FIRST_TOO_GREAT" (.int 10000000000000000000000000000000000000000000000000000000000000000000000000000000000000000000000000000)) (kc2 : ConstAt K mg "ZERO" (.tuple [])) (kc3 : ConstAt K mg "ONE" (.tuple [(.tuple [(.tuple []), (.int 1)])]))
    (cn : Cn (cx P0 w K mg base fi_12 f cdv A outer s H E) (bdOf ⟨P0, w, K⟩ pgm EC T n fi_12) (fun cls dd _ H' => E cls dd H')) :
    PSs (cx P0 w K mg base fi_12 f cdv A outer s H E) (defBody fi_12.st) (tN (bdOf ⟨P0, w, K⟩ pgm EC T n fi_12) (fun cls dd _ H' => E cls dd H') [] fi_12.body) :=
  (sCons (sIf (tCm cn (cmp_gt cn.u64) (eO rfl (eCall cn rfl (f := 10) (fi := fi_10) rfl rfl (by rfl) rfl rfl (opC (O1 0) (opC (eO (nw := false) rfl eInt) opN)))) (eO (nw := false) rfl eInt) (nomark _)) (sCons (sRet (eIx cn (eO rfl (eLst (vCons eStr (vCons eStr (vCons eStr (vCons eStr (vCons eStr (vCons eStr (vCons eStr vNil))))))))) (eO rfl (eCall cn rfl (f := 10) (fi := fi_10) rfl rfl (by rfl) rfl rfl (opC (O1 0) (opC (eO (nw := false) rfl eInt) opN))))))
  sNil) sNil)
  (sCons (sRet (eE (eBin cn opd_add (eO rfl (eIx cn (eO (nw := false) rfl eStr) (eO rfl (eCall cn rfl (f := 10) (fi := fi_10) rfl rfl (by rfl) rfl rfl (opC (O1 0) (opC (eO (nw := false) rfl eInt) opN)))))) (eO rfl (eT cn cd_str (by rfl) m.str bt_str (opC (eO rfl (eBin cn opd_add (eO (nw := false) rfl eInt) (eO rfl (eCall cn rfl (f := 10) (fi := fi_10) rfl rfl (by rfl) rfl rfl (opC (O1 0) (opC (eO rfl (eIx cn (eO rfl (eLst (vCons eInt (vCons eInt vNil)))) (eO rfl (eCall cn rfl (f := 10) (fi := fi_10) rfl rfl (by rfl) rfl rfl (opC (O1 0) (opC (eO (nw := false) rfl eInt) opN)))))) opN)))))) opN))))))
  sNil))
theorem sc_12 : FnScope fi_12.N (fi_12.N.take fi_12.np) (defScope fi_12.st) := ⟨rfl, rfl, rfl, by decide +kernel, rfl, by decide +kernel, by decide +kernel⟩
theorem ok_12 {P0 : Program} {w : World} {K : PySem.W.Frag} {mg : Str → Option Value} {base : Heap} {EC : Nat → Option (Addr × Str)} {T : List (Addr × Str)} (D : DefAt K mg fi_12) (m : Mgs mg) (kc0 : ConstAt K mg "MOST_TERMS" (.int 400)) (kc1 : ConstAt K mg "FIRST_TOO_GREAT" (.int 10000000000000000000000000000000000000000000000000000000000000000000000000000000000000000000000000000)) (kc2 : ConstAt K mg "ZERO" (.tuple [])) (kc3 : ConstAt K mg "ONE" (.tuple [(.tuple [(.tuple []), (.int 1)])])) : DefOk P0 w K mg base pgm EC T fi_12 :=
  ⟨let ⟨f, fd, F, hm⟩ := D; ⟨f, fd, [], F, hm, F.binds (ps := fi_12.N.take fi_12.np) fun _ _ _ _ _ _ us hl => match us, hl with | [_], _ => rfl, sc_12, rfl, fun n cdv A outer s H E _ cn => d_12 m kc0 kc1 kc2 kc3 cn⟩, by decide⟩
theorem d_13 {P0 : Program} {w : World} {K : PySem.W.Frag} {mg : Str → Option Value} {base : Heap} {EC : Nat → Option (Addr × Str)} {T : List (Addr × Str)} {n : Nat} {f : Addr} {cdv : Value} {A : Around} {outer : List Env} {s : Shared} {H : Hp} {E : XK} (m : Mgs mg) (kc0 : ConstAt K mg "MOST_TERMS" (.int 400)) (kc1 : ConstAt K mg "FIRST_TOO_GREAT" (.int 10000000000000000000000000000000000000000000000000000000000000000000000000000000000000000000000000000)) (kc2 : ConstAt K mg "ZERO" (.tuple [])) (kc3 : ConstAt K mg "ONE" (.tuple [(.tuple [(.tuple []), (.int 1)])]))
    (cn : Cn (cx P0 w K mg base fi_13 f cdv A outer s H E) (bdOf ⟨P0, w, K⟩ pgm EC T n fi_13) (fun cls dd _ H' => E cls dd H')) :
    PSs (cx P0 w K mg base fi_13 f cdv A outer s H E) (defBody fi_13.st) (tN (bdOf ⟨P0, w, K⟩ pgm EC T n fi_13) (fun cls dd _ H' => E cls dd H') [0, 1, 2, 3] fi_13.body) :=
  (sCons (sO cn 1 (eLst vNil))
  (sCons (sFor cn (ws' := [0, 1, 2, 3]) rfl (pEach cn rfl (eO rfl (V1 0))) (G1 2 (by exact cn.nd)) (sCons (sExp (eMm cn (i := 1) rfl PySem.F.slot_list_insert PySem.F.type_list_insert mm_insert (pv 1) (vCons (eE (eB cn cd_len (by rfl) m.len bt_len (opC (eO rfl (eLc cn (pEach cn rfl (O1 1)) (blkOk_by (own := [("_law_other", 3)]) (by kernel_rfl)) rfl rfl (fun _ _ _ _ _ => (G1 3 (by exact cn.nd))) (fun _ _ _ _ _ cn => if1 (tCm cn (cmp_lt cn.u64) (eO rfl (V1 3)) (eO rfl (V1 2)) (nomark _))) (fun _ _ _ _ _ cn => (V1 3)))) opN))) (vCons (V1 2) vNil))))
  sNil))
  (sCons (sR 1)
  sNil)))
theorem sc_13 : FnScope fi_13.N (fi_13.N.take fi_13.np) (defScope fi_13.st) := ⟨rfl, rfl, rfl, by decide +kernel, rfl, by decide +kernel, by decide +kernel⟩
theorem ok_13 {P0 : Program} {w : World} {K : PySem.W.Frag} {mg : Str → Option Value} {base : Heap} {EC : Nat → Option (Addr × Str)} {T : List (Addr × Str)} (D : DefAt K mg fi_13) (m : Mgs mg) (kc0 : ConstAt K mg "MOST_TERMS" (.int 400)) (kc1 : ConstAt K mg "FIRST_TOO_GREAT" (.int 10000000000000000000000000000000000000000000000000000000000000000000000000000000000000000000000000000)) (kc2 : ConstAt K mg "ZERO" (.tuple [])) (kc3 : ConstAt K mg "ONE" (.tuple [(.tuple [(.tuple []), (.int 1)])])) : DefOk P0 w K mg base pgm EC T fi_13 :=
  ⟨let ⟨f, fd, F, hm⟩ := D; ⟨f, fd, [0, 1, 2, 3], F, hm, F.binds (ps := fi_13.N.take fi_13.np) fun _ _ _ _ _ _ us hl => match us, hl with | [_], _ => rfl, sc_13, rfl, fun n cdv A outer s H E _ cn => d_13 m kc0 kc1 kc2 kc3 cn⟩, by decide⟩
theorem d_14 {P0 : Program} {w : World} {K : PySem.W.Frag} {mg : Str → Option Value} {base : Heap} {EC : Nat → Option (Addr × Str)} {T : List (Addr × Str)} {n : Nat} {f : Addr} {cdv : Value} {A : Around} {outer : List Env} {s : Shared} {H : Hp} {E : XK} (m : Mgs mg) (kc0 : ConstAt K mg "MOST_TERMS" (.int 400)) (kc1 : ConstAt K mg "FIRST_TOO_GREAT" (.int 10000000000000000000000000000000000000000000000000000000000000000000000000000000000000000000000000000)) (kc2 : ConstAt K mg "ZERO" (.tuple [])) (kc3 : ConstAt K mg "ONE" (.tuple [(.tuple [(.tuple []), (.int 1)])]))
    (cn : Cn (cx P0 w K mg base fi_14 f cdv A outer s H E) (bdOf ⟨P0, w, K⟩ pgm EC T n fi_14) (fun cls dd _ H' => E cls dd H')) :
    PSs (cx P0 w K mg base fi_14 f cdv A outer s H E) (defBody fi_14.st) (tN (bdOf ⟨P0, w, K⟩ pgm EC T n fi_14) (fun cls dd _ H' => E cls dd H') [1, 2] fi_14.body) :=
  (sCons (sRet (eLk (nw := false) cn 0 (by rfl) (.inr (.inr rfl)) (fun cn => (eE (eT cn cd_tup (by rfl) m.tuple bt_tuple (opC (eO rfl (eLc cn (pEach cn rfl (eO rfl (eCall cn rfl (f := 13) (fi := fi_13) rfl rfl (by rfl) rfl rfl (opC (eO rfl (eLc cn (pEachD cn rfl (V1 0)) (blkOk_by (own := [("_law_one", 2)]) (by kernel_rfl)) rfl rfl (fun _ _ _ _ _ => (G1 2 (by exact cn.nd))) (fun _ _ _ _ _ cn => ifN) (fun _ _ _ _ _ cn => (V1 2)))) opN)))) (blkOk_by (own := [("_law_monomial_here", 1)]) (by kernel_rfl)) rfl rfl (fun _ _ _ _ _ => (G1 1 (by exact cn.nd))) (fun _ _ _ _ _ cn => if1 (tCm cn (cmp_gt cn.u64) (eO rfl (eIx cn (eO rfl (V1 0)) (eO rfl (V1 1)))) (eO (nw := false) rfl eInt) (nomark _))) (fun _ _ _ _ _ cn => (eTup (vCons (V1 1) (vCons (eIx cn (eO rfl (V1 0)) (eO rfl (V1 1))) vNil)))))) opN))))))
  sNil)
theorem sc_14 : FnScope fi_14.N (fi_14.N.take fi_14.np) (defScope fi_14.st) := ⟨rfl, rfl, rfl, by decide +kernel, rfl, by decide +kernel, by decide +kernel⟩
theorem ok_14 {P0 : Program} {w : World} {K : PySem.W.Frag} {mg : Str → Option Value} {base : Heap} {EC : Nat → Option (Addr × Str)} {T : List (Addr × Str)} (D : DefAt K mg fi_14) (m : Mgs mg) (kc0 : ConstAt K mg "MOST_TERMS" (.int 400)) (kc1 : ConstAt K mg "FIRST_TOO_GREAT" (.int 10000000000000000000000000000000000000000000000000000000000000000000000000000000000000000000000000000)) (kc2 : ConstAt K mg "ZERO" (.tuple [])) (kc3 : ConstAt K mg "ONE" (.tuple [(.tuple [(.tuple []), (.int 1)])])) : DefOk P0 w K mg base pgm EC T fi_14 :=
  ⟨let ⟨f, fd, F, hm⟩ := D; ⟨f, fd, [1, 2], F, hm, F.binds (ps := fi_14.N.take fi_14.np) fun _ _ _ _ _ _ us hl => match us, hl with | [_], _ => rfl, sc_14, rfl, fun n cdv A outer s H E _ cn => d_14 m kc0 kc1 kc2 kc3 cn⟩, by decide⟩
theorem d_15 {P0 : Program} {w : World} {K : PySem.W.Frag} {mg : Str → Option Value} {base : Heap} {EC : Nat → Option (Addr × Str)} {T : List (Addr × Str)} {n : Nat} {f : Addr} {cdv : Value} {A : Around} {outer : List Env} {s : Shared} {H : Hp} {E : XK} (m : Mgs mg) (kc0 : ConstAt K mg "MOST_TERMS" (.int 400)) (kc1 : ConstAt K mg "FIRST_TOO_GREAT" (.int 10000000000000000000000000000000000000000000000000000000000000000000000000000000000000000000000000000)) (kc2 : ConstAt K mg "ZERO" (.tuple [])) (kc3 : ConstAt K mg "ONE" (.tuple [(.tuple [(.tuple []), (.int 1)])]))
    (cn : Cn (cx P0 w K mg base fi_15 f cdv A outer s H E) (bdOf ⟨P0, w, K⟩ pgm EC T n fi_15) (fun cls dd _ H' => E cls dd H')) :
    PSs (cx P0 w K mg base fi_15 f cdv A outer s H E) (defBody fi_15.st) (tN (bdOf ⟨P0, w, K⟩ pgm EC T n fi_15) (fun cls dd _ H' => E cls dd H') [1, 2, 3, 4, 5] fi_15.body) :=
  (sCons (sO cn 2 eDic)
  (sCons (sFor cn (ws' := [1, 2, 3, 4, 5]) rfl (pRng1 (by rfl) m.range rfl (eO rfl (eCall cn rfl (f := 10) (fi := fi_10) rfl rfl (by rfl) rfl rfl (opC (O1 0) (opC (eO rfl (eBin cn opd_add (eO rfl (V1 1)) (eO (nw := false) rfl eInt))) opN))))) (G1 3 (by exact cn.nd)) (sCons (sSetI cn (i := 2) rfl (pv 2) (eCall cn rfl (f := 12) (fi := fi_12) rfl rfl (by rfl) rfl rfl (opC (O1 0) opN)) (eE (eBin cn opd_add (eO (nw := false) rfl eInt) (eO rfl (eCall cn rfl (f := 10) (fi := fi_10) rfl rfl (by rfl) rfl rfl (opC (O1 0) (opC (eO rfl (eIx cn (eO rfl (eLst (vCons eInt (vCons eInt (vCons eInt vNil))))) (eO rfl (eCall cn rfl (f := 10) (fi := fi_10) rfl rfl (by rfl) rfl rfl (opC (O1 0) (opC (eO (nw := false) rfl eInt) opN)))))) opN)))))))
  sNil))
  (sCons (sRetZ cn rfl rfl fun cn => (eE (eT cn cd_tup (by rfl) m.tuple bt_tuple (opC (eO rfl (eLc cn (pEach cn rfl (eO rfl (eCall cn rfl (f := 13) (fi := fi_13) rfl rfl (by rfl) rfl rfl (opC (eO rfl (eLc cn (pEachD cn rfl (V1 2)) (blkOk_by (own := [("_law_one", 5)]) (by kernel_rfl)) rfl rfl (fun _ _ _ _ _ => (G1 5 (by exact cn.nd))) (fun _ _ _ _ _ cn => ifN) (fun _ _ _ _ _ cn => (V1 5)))) opN)))) (blkOk_by (own := [("_law_token_here", 4)]) (by kernel_rfl)) rfl rfl (fun _ _ _ _ _ => (G1 4 (by exact cn.nd))) (fun _ _ _ _ _ cn => ifN) (fun _ _ _ _ _ cn => (eTup (vCons (V1 4) (vCons (eIx cn (eO rfl (V1 2)) (eO rfl (V1 4))) vNil)))))) opN))))
  sNil)))
theorem sc_15 : FnScope fi_15.N (fi_15.N.take fi_15.np) (defScope fi_15.st) := ⟨rfl, rfl, rfl, by decide +kernel, rfl, by decide +kernel, by decide +kernel⟩
theorem ok_15 {P0 : Program} {w : World} {K : PySem.W.Frag} {mg : Str → Option Value} {base : Heap} {EC : Nat → Option (Addr × Str)} {T : List (Addr × Str)} (D : DefAt K mg fi_15) (m : Mgs mg) (kc0 : ConstAt K mg "MOST_TERMS" (.int 400)) (kc1 : ConstAt K mg "FIRST_TOO_GREAT" (.int 10000000000000000000000000000000000000000000000000000000000000000000000000000000000000000000000000000)) (kc2 : ConstAt K mg "ZERO" (.tuple [])) (kc3 : ConstAt K mg "ONE" (.tuple [(.tuple [(.tuple []), (.int 1)])])) : DefOk P0 w K mg base pgm EC T fi_15 :=
  ⟨let ⟨f, fd, F, hm⟩ := D; ⟨f, fd, [1, 2, 3, 4, 5], F, hm, F.binds (ps := fi_15.N.take fi_15.np) fun _ _ _ _ _ _ us hl => match us, hl with | [_, _], _ => rfl, sc_15, rfl, fun n cdv A outer s H E _ cn => d_15 m kc0 kc1 kc2 kc3 cn⟩, by decide⟩
theorem d_16 {P0 : Program} {w : World} {K : PySem.W.Frag} {mg : Str → Option Value} {base : Heap} {EC : Nat → Option (Addr × Str)} {T : List (Addr × Str)} {n : Nat} {f : Addr} {cdv : Value} {A : Around} {outer : List Env} {s : Shared} {H : Hp} {E : XK} (m : Mgs mg) (kc0 : ConstAt K mg "MOST_TERMS" (.int 400)) (kc1 : ConstAt K mg "FIRST_TOO_GREAT" (.int 10000000000000000000000000000000000000000000000000000000000000000000000000000000000000000000000000000)) (kc2 : ConstAt K mg "ZERO" (.tuple [])) (kc3 : ConstAt K mg "ONE" (.tuple [(.tuple [(.tuple []), (.int 1)])]))
    (cn : Cn (cx P0 w K mg base fi_16 f cdv A outer s H E) (bdOf ⟨P0, w, K⟩ pgm EC T n fi_16) (fun cls dd _ H' => E cls dd H')) :
    PSs (cx P0 w K mg base fi_16 f cdv A outer s H E) (defBody fi_16.st) (tN (bdOf ⟨P0, w, K⟩ pgm EC T n fi_16) (fun cls dd _ H' => E cls dd H') [1, 2, 3, 4] fi_16.body) :=
  (sCons (sO cn 3 eDic)
  (sCons (sFor cn (ws' := [1, 2, 3, 4]) rfl (pRng1 (by rfl) m.range rfl (eO rfl (eCall cn rfl (f := 10) (fi := fi_10) rfl rfl (by rfl) rfl rfl (opC (O1 0) (opC (eO rfl (eBin cn opd_add (eO rfl (V1 1)) (eO (nw := false) rfl eInt))) opN))))) (G1 4 (by exact cn.nd)) (sCons (sSetI cn (i := 3) rfl (pv 3) (eCall cn rfl (f := 15) (fi := fi_15) rfl rfl (by rfl) rfl rfl (opC (O1 0) (opC (eO rfl (V1 2)) opN))) (eE (eBin cn opd_add (eO (nw := false) rfl eInt) (eO rfl (eCall cn rfl (f := 10) (fi := fi_10) rfl rfl (by rfl) rfl rfl (opC (O1 0) (opC (eO rfl (eIx cn (eO rfl (eLst (vCons eInt (vCons eInt (vCons eInt vNil))))) (eO rfl (eCall cn rfl (f := 10) (fi := fi_10) rfl rfl (by rfl) rfl rfl (opC (O1 0) (opC (eO (nw := false) rfl eInt) opN)))))) opN)))))))
  sNil))
  (sCons (sRet (eCall cn rfl (f := 14) (fi := fi_14) rfl rfl (by rfl) rfl rfl (opC (O1 3) opN)))
  sNil)))
theorem sc_16 : FnScope fi_16.N (fi_16.N.take fi_16.np) (defScope fi_16.st) := ⟨rfl, rfl, rfl, by decide +kernel, rfl, by decide +kernel, by decide +kernel⟩
theorem ok_16 {P0 : Program} {w : World} {K : PySem.W.Frag} {mg : Str → Option Value} {base : Heap} {EC : Nat → Option (Addr × Str)} {T : List (Addr × Str)} (D : DefAt K mg fi_16) (m : Mgs mg) (kc0 : ConstAt K mg "MOST_TERMS" (.int 400)) (kc1 : ConstAt K mg "FIRST_TOO_GREAT" (.int 10000000000000000000000000000000000000000000000000000000000000000000000000000000000000000000000000000)) (kc2 : ConstAt K mg "ZERO" (.tuple [])) (kc3 : ConstAt K mg "ONE" (.tuple [(.tuple [(.tuple []), (.int 1)])])) : DefOk P0 w K mg base pgm EC T fi_16 :=
  ⟨let ⟨f, fd, F, hm⟩ := D; ⟨f, fd, [1, 2, 3, 4], F, hm, F.binds (ps := fi_16.N.take fi_16.np) fun _ _ _ _ _ _ us hl => match us, hl with | [_, _, _], _ => rfl, sc_16, rfl, fun n cdv A outer s H E _ cn => d_16 m kc0 kc1 kc2 kc3 cn⟩, by decide⟩
theorem d_17 {P0 : Program} {w : World} {K : PySem.W.Frag} {mg : Str → Option Value} {base : Heap} {EC : Nat → Option (Addr × Str)} {T : List (Addr × Str)} {n : Nat} {f : Addr} {cdv : Value} {A : Around} {outer : List Env} {s : Shared} {H : Hp} {E : XK} (m : Mgs mg) (kc0 : ConstAt K mg "MOST_TERMS" (.int 400)) (kc1 : ConstAt K mg "FIRST_TOO_GREAT" (.int 10000000000000000000000000000000000000000000000000000000000000000000000000000000000000000000000000000)) (kc2 : ConstAt K mg "ZERO" (.tuple [])) (kc3 : ConstAt K mg "ONE" (.tuple [(.tuple [(.tuple []), (.int 1)])]))
    (cn : Cn (cx P0 w K mg base fi_17 f cdv A outer s H E) (bdOf ⟨P0, w, K⟩ pgm EC T n fi_17) (fun cls dd _ H' => E cls dd H')) :
    PSs (cx P0 w K mg base fi_17 f cdv A outer s H E) (defBody fi_17.st) (tN (bdOf ⟨P0, w, K⟩ pgm EC T n fi_17) (fun cls dd _ H' => E cls dd H') [0, 1, 2, 3, 4] fi_17.body) :=
  (sCons (sO cn 2 eDic)
  (sCons (sFor cn (ws' := [0, 1, 2, 3, 4]) rfl (pEach cn rfl (eO rfl (eBin cn opd_add (eO rfl (V1 0)) (eO rfl (V1 1))))) (pg_both (by exact cn.calm) (pgs_cons (G1 3 (by exact cn.nd)) (pgs_cons (G1 4 (by exact cn.nd)) pgs_nil))) (sCons (sSetI cn (i := 2) rfl (pv 2) (V1 3) (eE (eBin cn opd_add (eO rfl (eGet cn (pv 2) (vCons (V1 3) (vCons eInt vNil)))) (eO rfl (V1 4)))))
  sNil))
  (sCons (sRet (eCall cn rfl (f := 14) (fi := fi_14) rfl rfl (by rfl) rfl rfl (opC (O1 2) opN)))
  sNil)))
theorem sc_17 : FnScope fi_17.N (fi_17.N.take fi_17.np) (defScope fi_17.st) := ⟨rfl, rfl, rfl, by decide +kernel, rfl, by decide +kernel, by decide +kernel⟩
theorem ok_17 {P0 : Program} {w : World} {K : PySem.W.Frag} {mg : Str → Option Value} {base : Heap} {EC : Nat → Option (Addr × Str)} {T : List (Addr × Str)} (D : DefAt K mg fi_17) (m : Mgs mg) (kc0 : ConstAt K mg "MOST_TERMS" (.int 400)) (kc1 : ConstAt K mg "FIRST_TOO_GREAT" (.int 10000000000000000000000000000000000000000000000000000000000000000000000000000000000000000000000000000)) (kc2 : ConstAt K mg "ZERO" (.tuple [])) (kc3 : ConstAt K mg "ONE" (.tuple [(.tuple [(.tuple []), (.int 1)])])) : DefOk P0 w K mg base pgm EC T fi_17 :=
  ⟨let ⟨f, fd, F, hm⟩ := D; ⟨f, fd, [0, 1, 2, 3, 4], F, hm, F.binds (ps := fi_17.N.take fi_17.np) fun _ _ _ _ _ _ us hl => match us, hl with | [_, _], _ => rfl, sc_17, rfl, fun n cdv A outer s H E _ cn => d_17 m kc0 kc1 kc2 kc3 cn⟩, by decide⟩
theorem d_18 {P0 : Program} {w : World} {K : PySem.W.Frag} {mg : Str → Option Value} {base : Heap} {EC : Nat → Option (Addr × Str)} {T : List (Addr × Str)} {n : Nat} {f : Addr} {cdv : Value} {A : Around} {outer : List Env} {s : Shared} {H : Hp} {E : XK} (m : Mgs mg) (kc0 : ConstAt K mg "MOST_TERMS" (.int 400)) (kc1 : ConstAt K mg "FIRST_TOO_GREAT" (.int 10000000000000000000000000000000000000000000000000000000000000000000000000000000000000000000000000000)) (kc2 : ConstAt K mg "ZERO" (.tuple [])) (kc3 : ConstAt K mg "ONE" (.tuple [(.tuple [(.tuple []), (.int 1)])]))
    (cn : Cn (cx P0 w K mg base fi_18 f cdv A outer s H E) (bdOf ⟨P0, w, K⟩ pgm EC T n fi_18) (fun cls dd _ H' => E cls dd H')) :
    PSs (cx P0 w K mg base fi_18 f cdv A outer s H E) (defBody fi_18.st) (tN (bdOf ⟨P0, w, K⟩ pgm EC T n fi_18) (fun cls dd _ H' => E cls dd H') [0, 1, 2, 3, 4, 5] fi_18.body) :=
  (sCons (sO cn 2 eDic)
  (sCons (sFor cn (ws' := [0, 1, 2, 3, 4, 5]) rfl (pEach cn rfl (eO rfl (eBin cn opd_add (eO rfl (V1 0)) (eO rfl (V1 1))))) (pg_both (by exact cn.calm) (pgs_cons (G1 3 (by exact cn.nd)) (pgs_cons (G1 4 (by exact cn.nd)) pgs_nil))) (sCons (sSetI cn (i := 2) rfl (pv 2) (V1 3) (eE (eBin cn opd_add (eO rfl (eGet cn (pv 2) (vCons (V1 3) (vCons eInt vNil)))) (eO rfl (V1 4)))))
  sNil))
  (sCons (sRetZ cn rfl rfl fun cn => (eE (eT cn cd_tup (by rfl) m.tuple bt_tuple (opC (eO rfl (eLc cn (pEach cn rfl (eO rfl (eCall cn rfl (f := 13) (fi := fi_13) rfl rfl (by rfl) rfl rfl (opC (eO rfl (eLc cn (pEachD cn rfl (V1 2)) (blkOk_by (own := [("_law_part", 5)]) (by kernel_rfl)) rfl rfl (fun _ _ _ _ _ => (G1 5 (by exact cn.nd))) (fun _ _ _ _ _ cn => ifN) (fun _ _ _ _ _ cn => (V1 5)))) opN)))) (blkOk_by (own := [("_law_token_here", 3)]) (by kernel_rfl)) rfl rfl (fun _ _ _ _ _ => (G1 3 (by exact cn.nd))) (fun _ _ _ _ _ cn => ifN) (fun _ _ _ _ _ cn => (eTup (vCons (V1 3) (vCons (eIx cn (eO rfl (V1 2)) (eO rfl (V1 3))) vNil)))))) opN))))
  sNil)))
theorem sc_18 : FnScope fi_18.N (fi_18.N.take fi_18.np) (defScope fi_18.st) := ⟨rfl, rfl, rfl, by decide +kernel, rfl, by decide +kernel, by decide +kernel⟩
theorem ok_18 {P0 : Program} {w : World} {K : PySem.W.Frag} {mg : Str → Option Value} {base : Heap} {EC : Nat → Option (Addr × Str)} {T : List (Addr × Str)} (D : DefAt K mg fi_18) (m : Mgs mg) (kc0 : ConstAt K mg "MOST_TERMS" (.int 400)) (kc1 : ConstAt K mg "FIRST_TOO_GREAT" (.int 10000000000000000000000000000000000000000000000000000000000000000000000000000000000000000000000000000)) (kc2 : ConstAt K mg "ZERO" (.tuple [])) (kc3 : ConstAt K mg "ONE" (.tuple [(.tuple [(.tuple []), (.int 1)])])) : DefOk P0 w K mg base pgm EC T fi_18 :=
  ⟨let ⟨f, fd, F, hm⟩ := D; ⟨f, fd, [0, 1, 2, 3, 4, 5], F, hm, F.binds (ps := fi_18.N.take fi_18.np) fun _ _ _ _ _ _ us hl => match us, hl with | [_, _], _ => rfl, sc_18, rfl, fun n cdv A outer s H E _ cn => d_18 m kc0 kc1 kc2 kc3 cn⟩, by decide⟩
theorem d_19 {P0 : Program} {w : World} {K : PySem.W.Frag} {mg : Str → Option Value} {base : Heap} {EC : Nat → Option (Addr × Str)} {T : List (Addr × Str)} {n : Nat} {f : Addr} {cdv : Value} {A : Around} {outer : List Env} {s : Shared} {H : Hp} {E : XK} (m : Mgs mg) (kc0 : ConstAt K mg "MOST_TERMS" (.int 400)) (kc1 : ConstAt K mg "FIRST_TOO_GREAT" (.int 10000000000000000000000000000000000000000000000000000000000000000000000000000000000000000000000000000)) (kc2 : ConstAt K mg "ZERO" (.tuple [])) (kc3 : ConstAt K mg "ONE" (.tuple [(.tuple [(.tuple []), (.int 1)])]))
    (cn : Cn (cx P0 w K mg base fi_19 f cdv A outer s H E) (bdOf ⟨P0, w, K⟩ pgm EC T n fi_19) (fun cls dd _ H' => E cls dd H')) :
    PSs (cx P0 w K mg base fi_19 f cdv A outer s H E) (defBody fi_19.st) (tN (bdOf ⟨P0, w, K⟩ pgm EC T n fi_19) (fun cls dd _ H' => E cls dd H') [0, 1, 2, 3, 4, 5] fi_19.body) :=
  (sCons (sO cn 2 eDic)
  (sCons (sFor cn (ws' := [0, 1, 2, 3, 4, 5]) rfl (pEach cn rfl (eO rfl (V1 0))) (G1 3 (by exact cn.nd)) (sCons (sFor cn (ws' := [0, 1, 2, 3, 4, 5]) rfl (pEach cn rfl (eO rfl (V1 1))) (G1 4 (by exact cn.nd)) (sCons (sV cn 5 (eCall cn rfl (f := 18) (fi := fi_18) rfl rfl (by rfl) rfl rfl (opC (eO rfl (eIx cn (eO rfl (V1 3)) (eO (nw := false) rfl eInt))) (opC (eO rfl (eIx cn (eO rfl (V1 4)) (eO (nw := false) rfl eInt))) opN))))
  (sCons (sSetI cn (i := 2) rfl (pv 2) (V1 5) (eE (eBin cn opd_add (eO rfl (eGet cn (pv 2) (vCons (V1 5) (vCons eInt vNil)))) (eO rfl (eBin cn opd_mul (eO rfl (eIx cn (eO rfl (V1 3)) (eO (nw := false) rfl eInt))) (eO rfl (eIx cn (eO rfl (V1 4)) (eO (nw := false) rfl eInt))))))))
  sNil)))
  sNil))
  (sCons (sRet (eCall cn rfl (f := 14) (fi := fi_14) rfl rfl (by rfl) rfl rfl (opC (O1 2) opN)))
  sNil)))
theorem sc_19 : FnScope fi_19.N (fi_19.N.take fi_19.np) (defScope fi_19.st) := ⟨rfl, rfl, rfl, by decide +kernel, rfl, by decide +kernel, by decide +kernel⟩
theorem ok_19 {P0 : Program} {w : World} {K : PySem.W.Frag} {mg : Str → Option Value} {base : Heap} {EC : Nat → Option (Addr × Str)} {T : List (Addr × Str)} (D : DefAt K mg fi_19) (m : Mgs mg) (kc0 : ConstAt K mg "MOST_TERMS" (.int 400)) (kc1 : ConstAt K mg "FIRST_TOO_GREAT" (.int 10000000000000000000000000000000000000000000000000000000000000000000000000000000000000000000000000000)) (kc2 : ConstAt K mg "ZERO" (.tuple [])) (kc3 : ConstAt K mg "ONE" (.tuple [(.tuple [(.tuple []), (.int 1)])])) : DefOk P0 w K mg base pgm EC T fi_19 :=
  ⟨let ⟨f, fd, F, hm⟩ := D; ⟨f, fd, [0, 1, 2, 3, 4, 5], F, hm, F.binds (ps := fi_19.N.take fi_19.np) fun _ _ _ _ _ _ us hl => match us, hl with | [_, _], _ => rfl, sc_19, rfl, fun n cdv A outer s H E _ cn => d_19 m kc0 kc1 kc2 kc3 cn⟩, by decide⟩
theorem d_20 {P0 : Program} {w : World} {K : PySem.W.Frag} {mg : Str → Option Value} {base : Heap} {EC : Nat → Option (Addr × Str)} {T : List (Addr × Str)} {n : Nat} {f : Addr} {cdv : Value} {A : Around} {outer : List Env} {s : Shared} {H : Hp} {E : XK} (m : Mgs mg) (kc0 : ConstAt K mg "MOST_TERMS" (.int 400)) (kc1 : ConstAt K mg "FIRST_TOO_GREAT" (.int 10000000000000000000000000000000000000000000000000000000000000000000000000000000000000000000000000000)) (kc2 : ConstAt K mg "ZERO" (.tuple [])) (kc3 : ConstAt K mg "ONE" (.tuple [(.tuple [(.tuple []), (.int 1)])]))
    (cn : Cn (cx P0 w K mg base fi_20 f cdv A outer s H E) (bdOf ⟨P0, w, K⟩ pgm EC T n fi_20) (fun cls dd _ H' => E cls dd H')) :
    PSs (cx P0 w K mg base fi_20 f cdv A outer s H E) (defBody fi_20.st) (tN (bdOf ⟨P0, w, K⟩ pgm EC T n fi_20) (fun cls dd _ H' => E cls dd H') [0, 1, 2, 3] fi_20.body) :=
  (sCons (sV cn 3 (eCall cn rfl (f := 17) (fi := fi_17) rfl rfl (by rfl) rfl rfl (opC (eO rfl (eCall cn rfl (f := 17) (fi := fi_17) rfl rfl (by rfl) rfl rfl (opC (eO rfl (V1 0)) (opC (eO rfl (V1 1)) opN)))) (opC (eO rfl (V1 2)) opN))))
  (sCons (sIf (tNo (tV (eCall cn rfl (f := 11) (fi := fi_11) rfl rfl (by rfl) rfl rfl (opC (eO rfl (eLst (vCons (eCall cn rfl (f := 4) (fi := fi_4) rfl rfl (by rfl) rfl rfl (opC (eO rfl (eCall cn rfl (f := 4) (fi := fi_4) rfl rfl (by rfl) rfl rfl (opC (eO rfl (V1 0)) (opC (eO rfl (V1 1)) opN)))) (opC (eO rfl (V1 2)) opN))) (vCons (eCall cn rfl (f := 4) (fi := fi_4) rfl rfl (by rfl) rfl rfl (opC (eO rfl (V1 0)) (opC (eO rfl (eCall cn rfl (f := 4) (fi := fi_4) rfl rfl (by rfl) rfl rfl (opC (eO rfl (V1 1)) (opC (eO rfl (V1 2)) opN)))) opN))) (vCons (eCall cn rfl (f := 4) (fi := fi_4) rfl rfl (by rfl) rfl rfl (opC (eO rfl (V1 2)) (opC (eO rfl (eCall cn rfl (f := 4) (fi := fi_4) rfl rfl (by rfl) rfl rfl (opC (eO rfl (V1 1)) (opC (eO rfl (V1 0)) opN)))) opN))) vNil))))) (opC (eO rfl (eLst (vCons (V1 3) (vCons (V1 3) (vCons (V1 3) vNil))))) opN))))) (sCons (sRet eBl)
  sNil) sNil)
  (sCons (sRet (eCall cn rfl (f := 11) (fi := fi_11) rfl rfl (by rfl) rfl rfl (opC (eO rfl (eLst (vCons (eCall cn rfl (f := 4) (fi := fi_4) rfl rfl (by rfl) rfl rfl (opC (eO rfl (V1 0)) (opC (eO (nw := false) rfl (eGlo cn kc2 rfl (by rfl))) opN))) (vCons (eCall cn rfl (f := 4) (fi := fi_4) rfl rfl (by rfl) rfl rfl (opC (eO (nw := false) rfl (eGlo cn kc2 rfl (by rfl))) (opC (eO rfl (V1 0)) opN))) vNil)))) (opC (eO rfl (eLst (vCons (V1 0) (vCons (V1 0) vNil)))) opN))))
  sNil)))
theorem sc_20 : FnScope fi_20.N (fi_20.N.take fi_20.np) (defScope fi_20.st) := ⟨rfl, rfl, rfl, by decide +kernel, rfl, by decide +kernel, by decide +kernel⟩
theorem ok_20 {P0 : Program} {w : World} {K : PySem.W.Frag} {mg : Str → Option Value} {base : Heap} {EC : Nat → Option (Addr × Str)} {T : List (Addr × Str)} (D : DefAt K mg fi_20) (m : Mgs mg) (kc0 : ConstAt K mg "MOST_TERMS" (.int 400)) (kc1 : ConstAt K mg "FIRST_TOO_GREAT" (.int 10000000000000000000000000000000000000000000000000000000000000000000000000000000000000000000000000000)) (kc2 : ConstAt K mg "ZERO" (.tuple [])) (kc3 : ConstAt K mg "ONE" (.tuple [(.tuple [(.tuple []), (.int 1)])])) : DefOk P0 w K mg base pgm EC T fi_20 :=
  ⟨let ⟨f, fd, F, hm⟩ := D; ⟨f, fd, [0, 1, 2, 3], F, hm, F.binds (ps := fi_20.N.take fi_20.np) fun _ _ _ _ _ _ us hl => match us, hl with | [_, _, _], _ => rfl, sc_20, rfl, fun n cdv A outer s H E _ cn => d_20 m kc0 kc1 kc2 kc3 cn⟩, by decide⟩
theorem d_21 {P0 : Program} {w : World} {K : PySem.W.Frag} {mg : Str → Option Value} {base : Heap} {EC : Nat → Option (Addr × Str)} {T : List (Addr × Str)} {n : Nat} {f : Addr} {cdv : Value} {A : Around} {outer : List Env} {s : Shared} {H : Hp} {E : XK} (m : Mgs mg) (kc0 : ConstAt K mg "MOST_TERMS" (.int 400)) (kc1 : ConstAt K mg "FIRST_TOO_GREAT" (.int 10000000000000000000000000000000000000000000000000000000000000000000000000000000000000000000000000000)) (kc2 : ConstAt K mg "ZERO" (.tuple [])) (kc3 : ConstAt K mg "ONE" (.tuple [(.tuple [(.tuple []), (.int 1)])]))
    (cn : Cn (cx P0 w K mg base fi_21 f cdv A outer s H E) (bdOf ⟨P0, w, K⟩ pgm EC T n fi_21) (fun cls dd _ H' => E cls dd H')) :
    PSs (cx P0 w K mg base fi_21 f cdv A outer s H E) (defBody fi_21.st) (tN (bdOf ⟨P0, w, K⟩ pgm EC T n fi_21) (fun cls dd _ H' => E cls dd H') [0, 1, 2, 3] fi_21.body) :=
  (sCons (sV cn 3 (eCall cn rfl (f := 19) (fi := fi_19) rfl rfl (by rfl) rfl rfl (opC (eO rfl (eCall cn rfl (f := 19) (fi := fi_19) rfl rfl (by rfl) rfl rfl (opC (eO rfl (V1 0)) (opC (eO rfl (V1 1)) opN)))) (opC (eO rfl (V1 2)) opN))))
  (sCons (sIf (tNo (tV (eCall cn rfl (f := 11) (fi := fi_11) rfl rfl (by rfl) rfl rfl (opC (eO rfl (eLst (vCons (eCall cn rfl (f := 5) (fi := fi_5) rfl rfl (by rfl) rfl rfl (opC (eO rfl (eCall cn rfl (f := 5) (fi := fi_5) rfl rfl (by rfl) rfl rfl (opC (eO rfl (V1 0)) (opC (eO rfl (V1 1)) opN)))) (opC (eO rfl (V1 2)) opN))) (vCons (eCall cn rfl (f := 5) (fi := fi_5) rfl rfl (by rfl) rfl rfl (opC (eO rfl (V1 0)) (opC (eO rfl (eCall cn rfl (f := 5) (fi := fi_5) rfl rfl (by rfl) rfl rfl (opC (eO rfl (V1 1)) (opC (eO rfl (V1 2)) opN)))) opN))) (vCons (eCall cn rfl (f := 5) (fi := fi_5) rfl rfl (by rfl) rfl rfl (opC (eO rfl (V1 2)) (opC (eO rfl (eCall cn rfl (f := 5) (fi := fi_5) rfl rfl (by rfl) rfl rfl (opC (eO rfl (V1 1)) (opC (eO rfl (V1 0)) opN)))) opN))) vNil))))) (opC (eO rfl (eLst (vCons (V1 3) (vCons (V1 3) (vCons (V1 3) vNil))))) opN))))) (sCons (sRet eBl)
  sNil) sNil)
  (sCons (sRet (eCall cn rfl (f := 11) (fi := fi_11) rfl rfl (by rfl) rfl rfl (opC (eO rfl (eLst (vCons (eCall cn rfl (f := 5) (fi := fi_5) rfl rfl (by rfl) rfl rfl (opC (eO rfl (V1 0)) (opC (eO (nw := false) rfl (eGlo cn kc3 rfl (by rfl))) opN))) (vCons (eCall cn rfl (f := 5) (fi := fi_5) rfl rfl (by rfl) rfl rfl (opC (eO (nw := false) rfl (eGlo cn kc3 rfl (by rfl))) (opC (eO rfl (V1 0)) opN))) (vCons (eCall cn rfl (f := 5) (fi := fi_5) rfl rfl (by rfl) rfl rfl (opC (eO rfl (V1 0)) (opC (eO (nw := false) rfl (eGlo cn kc2 rfl (by rfl))) opN))) (vCons (eCall cn rfl (f := 5) (fi := fi_5) rfl rfl (by rfl) rfl rfl (opC (eO (nw := false) rfl (eGlo cn kc2 rfl (by rfl))) (opC (eO rfl (V1 0)) opN))) vNil)))))) (opC (eO rfl (eLst (vCons (V1 0) (vCons (V1 0) (vCons (eTup vNil) (vCons (eTup vNil) vNil)))))) opN))))
  sNil)))
theorem sc_21 : FnScope fi_21.N (fi_21.N.take fi_21.np) (defScope fi_21.st) := ⟨rfl, rfl, rfl, by decide +kernel, rfl, by decide +kernel, by decide +kernel⟩
theorem ok_21 {P0 : Program} {w : World} {K : PySem.W.Frag} {mg : Str → Option Value} {base : Heap} {EC : Nat → Option (Addr × Str)} {T : List (Addr × Str)} (D : DefAt K mg fi_21) (m : Mgs mg) (kc0 : ConstAt K mg "MOST_TERMS" (.int 400)) (kc1 : ConstAt K mg "FIRST_TOO_GREAT" (.int 10000000000000000000000000000000000000000000000000000000000000000000000000000000000000000000000000000)) (kc2 : ConstAt K mg "ZERO" (.tuple [])) (kc3 : ConstAt K mg "ONE" (.tuple [(.tuple [(.tuple []), (.int 1)])])) : DefOk P0 w K mg base pgm EC T fi_21 :=
  ⟨let ⟨f, fd, F, hm⟩ := D; ⟨f, fd, [0, 1, 2, 3], F, hm, F.binds (ps := fi_21.N.take fi_21.np) fun _ _ _ _ _ _ us hl => match us, hl with | [_, _, _], _ => rfl, sc_21, rfl, fun n cdv A outer s H E _ cn => d_21 m kc0 kc1 kc2 kc3 cn⟩, by decide⟩
theorem d_22 {P0 : Program} {w : World} {K : PySem.W.Frag} {mg : Str → Option Value} {base : Heap} {EC : Nat → Option (Addr × Str)} {T : List (Addr × Str)} {n : Nat} {f : Addr} {cdv : Value} {A : Around} {outer : List Env} {s : Shared} {H : Hp} {E : XK} (m : Mgs mg) (kc0 : ConstAt K mg "MOST_TERMS" (.int 400)) (kc1 : ConstAt K mg "FIRST_TOO_GREAT" (.int 10000000000000000000000000000000000000000000000000000000000000000000000000000000000000000000000000000)) (kc2 : ConstAt K mg "ZERO" (.tuple [])) (kc3 : ConstAt K mg "ONE" (.tuple [(.tuple [(.tuple []), (.int 1)])]))
    (cn : Cn (cx P0 w K mg base fi_22 f cdv A outer s H E) (bdOf ⟨P0, w, K⟩ pgm EC T n fi_22) (fun cls dd _ H' => E cls dd H')) :
    PSs (cx P0 w K mg base fi_22 f cdv A outer s H E) (defBody fi_22.st) (tN (bdOf ⟨P0, w, K⟩ pgm EC T n fi_22) (fun cls dd _ H' => E cls dd H') [0, 1, 2, 3, 4] fi_22.body) :=
  (sCons (sV cn 3 (eCall cn rfl (f := 17) (fi := fi_17) rfl rfl (by rfl) rfl rfl (opC (eO rfl (eCall cn rfl (f := 19) (fi := fi_19) rfl rfl (by rfl) rfl rfl (opC (eO rfl (V1 0)) (opC (eO rfl (V1 1)) opN)))) (opC (eO rfl (eCall cn rfl (f := 19) (fi := fi_19) rfl rfl (by rfl) rfl rfl (opC (eO rfl (V1 0)) (opC (eO rfl (V1 2)) opN)))) opN))))
  (sCons (sV cn 4 (eE (eLst (vCons (eCall cn rfl (f := 5) (fi := fi_5) rfl rfl (by rfl) rfl rfl (opC (eO rfl (V1 0)) (opC (eO rfl (eCall cn rfl (f := 4) (fi := fi_4) rfl rfl (by rfl) rfl rfl (opC (eO rfl (V1 1)) (opC (eO rfl (V1 2)) opN)))) opN))) (vCons (eCall cn rfl (f := 4) (fi := fi_4) rfl rfl (by rfl) rfl rfl (opC (eO rfl (eCall cn rfl (f := 5) (fi := fi_5) rfl rfl (by rfl) rfl rfl (opC (eO rfl (V1 0)) (opC (eO rfl (V1 1)) opN)))) (opC (eO rfl (eCall cn rfl (f := 5) (fi := fi_5) rfl rfl (by rfl) rfl rfl (opC (eO rfl (V1 0)) (opC (eO rfl (V1 2)) opN)))) opN))) (vCons (eCall cn rfl (f := 5) (fi := fi_5) rfl rfl (by rfl) rfl rfl (opC (eO rfl (eCall cn rfl (f := 4) (fi := fi_4) rfl rfl (by rfl) rfl rfl (opC (eO rfl (V1 1)) (opC (eO rfl (V1 2)) opN)))) (opC (eO rfl (V1 0)) opN))) vNil))))))
  (sCons (sRet (eCall cn rfl (f := 11) (fi := fi_11) rfl rfl (by rfl) rfl rfl (opC (eO rfl (V1 4)) (opC (eO rfl (eLst (vCons (V1 3) (vCons (V1 3) (vCons (V1 3) vNil))))) opN))))
  sNil)))
theorem sc_22 : FnScope fi_22.N (fi_22.N.take fi_22.np) (defScope fi_22.st) := ⟨rfl, rfl, rfl, by decide +kernel, rfl, by decide +kernel, by decide +kernel⟩
theorem ok_22 {P0 : Program} {w : World} {K : PySem.W.Frag} {mg : Str → Option Value} {base : Heap} {EC : Nat → Option (Addr × Str)} {T : List (Addr × Str)} (D : DefAt K mg fi_22) (m : Mgs mg) (kc0 : ConstAt K mg "MOST_TERMS" (.int 400)) (kc1 : ConstAt K mg "FIRST_TOO_GREAT" (.int 10000000000000000000000000000000000000000000000000000000000000000000000000000000000000000000000000000)) (kc2 : ConstAt K mg "ZERO" (.tuple [])) (kc3 : ConstAt K mg "ONE" (.tuple [(.tuple [(.tuple []), (.int 1)])])) : DefOk P0 w K mg base pgm EC T fi_22 :=
  ⟨let ⟨f, fd, F, hm⟩ := D; ⟨f, fd, [0, 1, 2, 3, 4], F, hm, F.binds (ps := fi_22.N.take fi_22.np) fun _ _ _ _ _ _ us hl => match us, hl with | [_, _, _], _ => rfl, sc_22, rfl, fun n cdv A outer s H E _ cn => d_22 m kc0 kc1 kc2 kc3 cn⟩, by decide⟩
theorem d_23 {P0 : Program} {w : World} {K : PySem.W.Frag} {mg : Str → Option Value} {base : Heap} {EC : Nat → Option (Addr × Str)} {T : List (Addr × Str)} {n : Nat} {f : Addr} {cdv : Value} {A : Around} {outer : List Env} {s : Shared} {H : Hp} {E : XK} (m : Mgs mg) (kc0 : ConstAt K mg "MOST_TERMS" (.int 400)) (kc1 : ConstAt K mg "FIRST_TOO_GREAT" (.int 10000000000000000000000000000000000000000000000000000000000000000000000000000000000000000000000000000)) (kc2 : ConstAt K mg "ZERO" (.tuple [])) (kc3 : ConstAt K mg "ONE" (.tuple [(.tuple [(.tuple []), (.int 1)])]))
    (cn : Cn (cx P0 w K mg base fi_23 f cdv A outer s H E) (bdOf ⟨P0, w, K⟩ pgm EC T n fi_23) (fun cls dd _ H' => E cls dd H')) :
    PSs (cx P0 w K mg base fi_23 f cdv A outer s H E) (defBody fi_23.st) (tN (bdOf ⟨P0, w, K⟩ pgm EC T n fi_23) (fun cls dd _ H' => E cls dd H') [0, 1, 2, 3, 4, 5, 6, 7, 8] fi_23.body) :=
  (sCons (sO cn 1 (eCall cn rfl (f := 9) (fi := fi_9) rfl rfl (by rfl) rfl rfl (opC (eO rfl (V1 0)) (opC (eO (nw := false) rfl eInt) opN))))
  (sCons (sO cn 2 (eCall cn rfl (f := 9) (fi := fi_9) rfl rfl (by rfl) rfl rfl (opC (eO rfl (V1 0)) (opC (eO (nw := false) rfl eInt) opN))))
  (sCons (sV cn 3 (eCall cn rfl (f := 16) (fi := fi_16) rfl rfl (by rfl) rfl rfl (opC (O1 1) (opC (eO (nw := false) rfl eInt) (opC (eO (nw := false) rfl eInt) opN)))))
  (sCons (sV cn 4 (eCall cn rfl (f := 16) (fi := fi_16) rfl rfl (by rfl) rfl rfl (opC (O1 2) (opC (eO (nw := false) rfl eInt) (opC (eO (nw := false) rfl eInt) opN)))))
  (sCons (sV cn 5 (eCall cn rfl (f := 16) (fi := fi_16) rfl rfl (by rfl) rfl rfl (opC (O1 2) (opC (eO (nw := false) rfl eInt) (opC (eO (nw := false) rfl eInt) opN)))))
  (sCons (sFor cn (ws' := [0, 1, 2, 3, 4, 5, 6, 7, 8]) rfl (pEach cn rfl (eO rfl (eLst (vCons (eTup (vCons (V1 3) (vCons (V1 4) (vCons (V1 5) vNil)))) (vCons (eTup (vCons (V1 4) (vCons (V1 5) (vCons (V1 3) vNil)))) (vCons (eTup (vCons (V1 3) (vCons (V1 3) (vCons (V1 4) vNil)))) (vCons (eTup (vCons (V1 3) (vCons (V1 4) (vCons (eGlo cn kc2 rfl (by rfl)) vNil)))) (vCons (eTup (vCons (eGlo cn kc3 rfl (by rfl)) (vCons (V1 3) (vCons (V1 4) vNil)))) (vCons (eTup (vCons (V1 3) (vCons (V1 3) (vCons (V1 3) vNil)))) vNil))))))))) (pg_both (by exact cn.calm) (pgs_cons (G1 6 (by exact cn.nd)) (pgs_cons (G1 7 (by exact cn.nd)) (pgs_cons (G1 8 (by exact cn.nd)) pgs_nil)))) (sCons (sIf (tOr' (torC (tNo (tV (eCall cn rfl (f := 20) (fi := fi_20) rfl rfl (by rfl) rfl rfl (opC (eO rfl (V1 6)) (opC (eO rfl (V1 7)) (opC (eO rfl (V1 8)) opN)))))) (tor1 (tNo (tV (eCall cn rfl (f := 21) (fi := fi_21) rfl rfl (by rfl) rfl rfl (opC (eO rfl (V1 6)) (opC (eO rfl (V1 7)) (opC (eO rfl (V1 8)) opN))))))))) (sCons (sRet eBl)
  sNil) sNil)
  (sCons (sIf (tNo (tV (eCall cn rfl (f := 22) (fi := fi_22) rfl rfl (by rfl) rfl rfl (opC (eO rfl (V1 6)) (opC (eO rfl (V1 7)) (opC (eO rfl (V1 8)) opN)))))) (sCons (sRet eBl)
  sNil) sNil)
  sNil)))
  (sCons (sRet eBl)
  sNil)))))))
theorem sc_23 : FnScope fi_23.N (fi_23.N.take fi_23.np) (defScope fi_23.st) := ⟨rfl, rfl, rfl, by decide +kernel, rfl, by decide +kernel, by decide +kernel⟩
theorem ok_23 {P0 : Program} {w : World} {K : PySem.W.Frag} {mg : Str → Option Value} {base : Heap} {EC : Nat → Option (Addr × Str)} {T : List (Addr × Str)} (D : DefAt K mg fi_23) (m : Mgs mg) (kc0 : ConstAt K mg "MOST_TERMS" (.int 400)) (kc1 : ConstAt K mg "FIRST_TOO_GREAT" (.int 10000000000000000000000000000000000000000000000000000000000000000000000000000000000000000000000000000)) (kc2 : ConstAt K mg "ZERO" (.tuple [])) (kc3 : ConstAt K mg "ONE" (.tuple [(.tuple [(.tuple []), (.int 1)])])) : DefOk P0 w K mg base pgm EC T fi_23 :=
  ⟨let ⟨f, fd, F, hm⟩ := D; ⟨f, fd, [0, 1, 2, 3, 4, 5, 6, 7, 8], F, hm, F.binds (ps := fi_23.N.take fi_23.np) fun _ _ _ _ _ _ us hl => match us, hl with | [_], _ => rfl, sc_23, rfl, fun n cdv A outer s H E _ cn => d_23 m kc0 kc1 kc2 kc3 cn⟩, by decide⟩
theorem all_ok {P0 : Program} {w : World} {K : PySem.W.Frag} {mg : Str → Option Value} {base : Heap} {EC : Nat → Option (Addr × Str)} (m : Mgs mg) (kc0 : ConstAt K mg "MOST_TERMS" (.int 400)) (kc1 : ConstAt K mg "FIRST_TOO_GREAT" (.int 10000000000000000000000000000000000000000000000000000000000000000000000000000000000000000000000000000)) (kc2 : ConstAt K mg "ZERO" (.tuple [])) (kc3 : ConstAt K mg "ONE" (.tuple [(.tuple [(.tuple []), (.int 1)])])) 
    (D0 : DefAt K mg fi_0) (D1 : DefAt K mg fi_1) (D2 : DefAt K mg fi_2) (D3 : DefAt K mg fi_3) (D4 : DefAt K mg fi_4) (D5 : DefAt K mg fi_5) (D6 : DefAt K mg fi_6) (D7 : DefAt K mg fi_7) (D8 : DefAt K mg fi_8) (D9 : DefAt K mg fi_9) (D10 : DefAt K mg fi_10) (D11 : DefAt K mg fi_11) (D12 : DefAt K mg fi_12) (D13 : DefAt K mg fi_13) (D14 : DefAt K mg fi_14) (D15 : DefAt K mg fi_15) (D16 : DefAt K mg fi_16) (D17 : DefAt K mg fi_17) (D18 : DefAt K mg fi_18) (D19 : DefAt K mg fi_19) (D20 : DefAt K mg fi_20) (D21 : DefAt K mg fi_21) (D22 : DefAt K mg fi_22) (D23 : DefAt K mg fi_23) :
    ∀ (f : Nat) (fi : Fi), pgm.T[f]? = some fi → DefOk P0 w K mg base pgm EC [] fi
  | 0, _, h => by cases h; exact ok_0 D0 m kc0 kc1 kc2 kc3
  | 1, _, h => by cases h; exact ok_1 D1 m kc0 kc1 kc2 kc3
  | 2, _, h => by cases h; exact ok_2 D2 m kc0 kc1 kc2 kc3
  | 3, _, h => by cases h; exact ok_3 D3 m kc0 kc1 kc2 kc3
  | 4, _, h => by cases h; exact ok_4 D4 m kc0 kc1 kc2 kc3
  | 5, _, h => by cases h; exact ok_5 D5 m kc0 kc1 kc2 kc3
  | 6, _, h => by cases h; exact ok_6 D6 m kc0 kc1 kc2 kc3
  | 7, _, h => by cases h; exact ok_7 D7 m kc0 kc1 kc2 kc3
  | 8, _, h => by cases h; exact ok_8 D8 m kc0 kc1 kc2 kc3
  | 9, _, h => by cases h; exact ok_9 D9 m kc0 kc1 kc2 kc3
  | 10, _, h => by cases h; exact ok_10 D10 m kc0 kc1 kc2 kc3
  | 11, _, h => by cases h; exact ok_11 D11 m kc0 kc1 kc2 kc3
  | 12, _, h => by cases h; exact ok_12 D12 m kc0 kc1 kc2 kc3
  | 13, _, h => by cases h; exact ok_13 D13 m kc0 kc1 kc2 kc3
  | 14, _, h => by cases h; exact ok_14 D14 m kc0 kc1 kc2 kc3
  | 15, _, h => by cases h; exact ok_15 D15 m kc0 kc1 kc2 kc3
  | 16, _, h => by cases h; exact ok_16 D16 m kc0 kc1 kc2 kc3
  | 17, _, h => by cases h; exact ok_17 D17 m kc0 kc1 kc2 kc3
  | 18, _, h => by cases h; exact ok_18 D18 m kc0 kc1 kc2 kc3
  | 19, _, h => by cases h; exact ok_19 D19 m kc0 kc1 kc2 kc3
  | 20, _, h => by cases h; exact ok_20 D20 m kc0 kc1 kc2 kc3
  | 21, _, h => by cases h; exact ok_21 D21 m kc0 kc1 kc2 kc3
  | 22, _, h => by cases h; exact ok_22 D22 m kc0 kc1 kc2 kc3
  | 23, _, h => by cases h; exact ok_23 D23 m kc0 kc1 kc2 kc3
  | n + 24, _, h => by simp [pgm] at h
/-- the law at the head's heap -/
theorem law_at {l : PySem.W.OpenLaw} {w : World} {K : PySem.W.Frag} {h : Heap} {mg : Str → Option Value} {fa : Addr} {n : Nat} (KX : K.In h) (G : h.Ns mainGlobals mg) (hmg : mg "law" = some (.ref fa)) (m : Mgs mg) (kc0 : ConstAt K mg "MOST_TERMS" (.int 400)) (kc1 : ConstAt K mg "FIRST_TOO_GREAT" (.int 10000000000000000000000000000000000000000000000000000000000000000000000000000000000000000000000000000)) (kc2 : ConstAt K mg "ZERO" (.tuple [])) (kc3 : ConstAt K mg "ONE" (.tuple [(.tuple [(.tuple []), (.int 1)])])) 
    (D0 : DefAt K mg fi_0) (D1 : DefAt K mg fi_1) (D2 : DefAt K mg fi_2) (D3 : DefAt K mg fi_3) (D4 : DefAt K mg fi_4) (D5 : DefAt K mg fi_5) (D6 : DefAt K mg fi_6) (D7 : DefAt K mg fi_7) (D8 : DefAt K mg fi_8) (D9 : DefAt K mg fi_9) (D10 : DefAt K mg fi_10) (D11 : DefAt K mg fi_11) (D12 : DefAt K mg fi_12) (D13 : DefAt K mg fi_13) (D14 : DefAt K mg fi_14) (D15 : DefAt K mg fi_15) (D16 : DefAt K mg fi_16) (D17 : DefAt K mg fi_17) (D18 : DefAt K mg fi_18) (D19 : DefAt K mg fi_19) (D20 : DefAt K mg fi_20) (D21 : DefAt K mg fi_21) (D22 : DefAt K mg fi_22) (D23 : DefAt K mg fi_23) 
    (plain : ∀ ns : List Int, ns.length ≤ 63 → (∀ z ∈ ns, Builtin.Int.intBits z ≤ 1048576) → callF pgm n 23 [.list (ns.map PyData.int)] = .ret (.bool true) []) : LawG l w K n 63 "_law_script" mg fa h := by
  obtain ⟨f, fd, F, hm⟩ := D23
  have e : f = fa := by have := hm.symm.trans hmg; cases this; rfl
  subst e
  have D23 : DefAt K mg fi_23 := ⟨f, fd, F, hm⟩
  have hb : L2.Binds K fd (fi_23.N.take fi_23.np) [] := F.binds (ps := fi_23.N.take fi_23.np) fun _ _ _ _ _ _ us hl => match us, hl with | [_], _ => rfl
  refine ⟨fd, [], spF ⟨l.prog, w, K⟩ [] (fun _ => none) (fi_23.ks.take fi_23.np) fi_23.fresh (callF pgm n 23), fun p hp => (nomatch hp), fun p hp => (nomatch hp), fun p hp => (nomatch hp), fun s u => ?_, fun H a ns hl hbt hT hr => ?_, fun base kb gb TB => ?_⟩
  · obtain ⟨oc, od, kV, doc, pmv, an, cdv, ct, osl, rfl, lk, hcd⟩ := F.ex
    exact .of_eq rfl
  · refine ⟨[.list (ns.map PyData.int)], ⟨hr, True.intro⟩, fun i j p hne hi _ => ?_, fun p hp => (nomatch hp), ?_⟩
    · match i, hi with
      | 0, hi => cases hi
      | i + 1, hi => simp [fi_23] at hi
    · rw [plain ns hl hbt]
      intro v H' _ r
      have r : Rep ⟨l.prog, w, K⟩ H' (.bool true) v := r
      rw [Rep] at r
      exact r
  · obtain ⟨f2, fd2, hm2, F2, _, FG⟩ := all_calls (P := l.prog) (w := w) (K := K) (mg := mg) (base := base) (EC := fun _ => none) (T := []) (all_ok m kc0 kc1 kc2 kc3 D0 D1 D2 D3 D4 D5 D6 D7 D8 D9 D10 D11 D12 D13 D14 D15 D16 D17 D18 D19 D20 D21 D22 D23) n 23 fi_23 rfl
    have e2 : f2 = f := by have := hm2.symm.trans hm; cases this; rfl
    subst e2
    have e3 : fd2 = fd := by
      obtain ⟨oc, od, kV, doc, pmv, an, cdv, ct, osl, rfl, lk, hcd⟩ := F.ex
      obtain ⟨oc2, od2, kV2, doc2, pmv2, an2, cdv2, ct2, osl2, rfl, lk2, hcd2⟩ := F2.ex
      have := lk.symm.trans lk2
      cases this
      rfl
    subst e3
    exact FG
theorem law_fin {l : PySem.W.OpenLaw} {w : World} {K : PySem.W.Frag} {h : Heap} {mg : Str → Option Value} {fa : Addr} {n : Nat}
  {f0 : Addr} {oc0 : Value} {od0 an0 : Option Addr} {osl0 : Array (Option Value)} {kV0 doc0 pm0 cd0 ct0 : Value}
  {f1 : Addr} {oc1 : Value} {od1 an1 : Option Addr} {osl1 : Array (Option Value)} {kV1 doc1 pm1 cd1 ct1 : Value}
  {f2 : Addr} {oc2 : Value} {od2 an2 : Option Addr} {osl2 : Array (Option Value)} {kV2 doc2 pm2 cd2 ct2 : Value}
  {f3 : Addr} {oc3 : Value} {od3 an3 : Option Addr} {osl3 : Array (Option Value)} {kV3 doc3 pm3 cd3 ct3 : Value}
  {f4 : Addr} {oc4 : Value} {od4 an4 : Option Addr} {osl4 : Array (Option Value)} {kV4 doc4 pm4 cd4 ct4 : Value}
  {f5 : Addr} {oc5 : Value} {od5 an5 : Option Addr} {osl5 : Array (Option Value)} {kV5 doc5 pm5 cd5 ct5 : Value}
  {f6 : Addr} {oc6 : Value} {od6 an6 : Option Addr} {osl6 : Array (Option Value)} {kV6 doc6 pm6 cd6 ct6 : Value}
  {f7 : Addr} {oc7 : Value} {od7 an7 : Option Addr} {osl7 : Array (Option Value)} {kV7 doc7 pm7 cd7 ct7 : Value}
  {f8 : Addr} {oc8 : Value} {od8 an8 : Option Addr} {osl8 : Array (Option Value)} {kV8 doc8 pm8 cd8 ct8 : Value}
  {f9 : Addr} {oc9 : Value} {od9 an9 : Option Addr} {osl9 : Array (Option Value)} {kV9 doc9 pm9 cd9 ct9 : Value}
  {f10 : Addr} {oc10 : Value} {od10 an10 : Option Addr} {osl10 : Array (Option Value)} {kV10 doc10 pm10 cd10 ct10 : Value}
  {f11 : Addr} {oc11 : Value} {od11 an11 : Option Addr} {osl11 : Array (Option Value)} {kV11 doc11 pm11 cd11 ct11 : Value}
  {f12 : Addr} {oc12 : Value} {od12 an12 : Option Addr} {osl12 : Array (Option Value)} {kV12 doc12 pm12 cd12 ct12 : Value}
  {f13 : Addr} {oc13 : Value} {od13 an13 : Option Addr} {osl13 : Array (Option Value)} {kV13 doc13 pm13 cd13 ct13 : Value}
  {f14 : Addr} {oc14 : Value} {od14 an14 : Option Addr} {osl14 : Array (Option Value)} {kV14 doc14 pm14 cd14 ct14 : Value}
  {f15 : Addr} {oc15 : Value} {od15 an15 : Option Addr} {osl15 : Array (Option Value)} {kV15 doc15 pm15 cd15 ct15 : Value}
  {f16 : Addr} {oc16 : Value} {od16 an16 : Option Addr} {osl16 : Array (Option Value)} {kV16 doc16 pm16 cd16 ct16 : Value}
  {f17 : Addr} {oc17 : Value} {od17 an17 : Option Addr} {osl17 : Array (Option Value)} {kV17 doc17 pm17 cd17 ct17 : Value}
  {f18 : Addr} {oc18 : Value} {od18 an18 : Option Addr} {osl18 : Array (Option Value)} {kV18 doc18 pm18 cd18 ct18 : Value}
  {f19 : Addr} {oc19 : Value} {od19 an19 : Option Addr} {osl19 : Array (Option Value)} {kV19 doc19 pm19 cd19 ct19 : Value}
  {f20 : Addr} {oc20 : Value} {od20 an20 : Option Addr} {osl20 : Array (Option Value)} {kV20 doc20 pm20 cd20 ct20 : Value}
  {f21 : Addr} {oc21 : Value} {od21 an21 : Option Addr} {osl21 : Array (Option Value)} {kV21 doc21 pm21 cd21 ct21 : Value}
  {f22 : Addr} {oc22 : Value} {od22 an22 : Option Addr} {osl22 : Array (Option Value)} {kV22 doc22 pm22 cd22 ct22 : Value}
  {f23 : Addr} {oc23 : Value} {od23 an23 : Option Addr} {osl23 : Array (Option Value)} {kV23 doc23 pm23 cd23 ct23 : Value}
  (plain : ∀ ns : List Int, ns.length ≤ 63 → (∀ z ∈ ns, Builtin.Int.intBits z ≤ 1048576) → callF pgm n 23 [.list (ns.map PyData.int)] = .ret (.bool true) []) (KX : K.In h) (G : h.Ns mainGlobals mg) (hmg : mg "law" = some (.ref fa))
  (z1 : PySem.W.nsIn K mainGlobals "len" = some none) (z2 : PySem.W.nsIn K mainGlobals "int" = some none) (z3 : PySem.W.nsIn K mainGlobals "str" = some none) (z4 : PySem.W.nsIn K mainGlobals "abs" = some none) (z5 : PySem.W.nsIn K mainGlobals "tuple" = some none) (z6 : PySem.W.nsIn K mainGlobals "list" = some none) (z7 : PySem.W.nsIn K mainGlobals "dict" = some none) (z8 : PySem.W.nsIn K mainGlobals "bool" = some none) (z9 : PySem.W.nsIn K mainGlobals "any" = some none) (z10 : PySem.W.nsIn K mainGlobals "all" = some none) (z11 : PySem.W.nsIn K mainGlobals "sum" = some none) (z12 : PySem.W.nsIn K mainGlobals "max" = some none) (z13 : PySem.W.nsIn K mainGlobals "min" = some none) (z14 : PySem.W.nsIn K mainGlobals "repr" = some none) (z15 : PySem.W.nsIn K mainGlobals "range" = some none) (z16 : PySem.W.nsIn K mainGlobals "isinstance" = some none) (z17 : PySem.W.nsIn K mainGlobals "sorted" = some none) (z18 : PySem.W.nsIn K mainGlobals "enumerate" = some none) (z19 : PySem.W.nsIn K mainGlobals "zip" = some none) (z20 : PySem.W.nsIn K mainGlobals "reversed" = some none)
  (a0 : PySem.W.nsIn K mainGlobals "frozen" = some (some (.ref f0))) (l0 : K.lookup f0 = some ⟨oc0, od0, .func (PySem.W.fnOf "frozen" "frozen" (defArgs (tpS 8)) (defBody (tpS 8)) (defScope (tpS 8)) .none kV0 doc0 pm0 an0 cd0 ct0), osl0⟩) (q0 : PySem.W.codeIn K cd0 "frozen" = true) (k0 : PySem.W.keepIn K (.ref f0) = true)
  (a1 : PySem.W.nsIn K mainGlobals "checked" = some (some (.ref f1))) (l1 : K.lookup f1 = some ⟨oc1, od1, .func (PySem.W.fnOf "checked" "checked" (defArgs (tpS 9)) (defBody (tpS 9)) (defScope (tpS 9)) .none kV1 doc1 pm1 an1 cd1 ct1), osl1⟩) (q1 : PySem.W.codeIn K cd1 "checked" = true) (k1 : PySem.W.keepIn K (.ref f1) = true)
  (a2 : PySem.W.nsIn K mainGlobals "need_figures" = some (some (.ref f2))) (l2 : K.lookup f2 = some ⟨oc2, od2, .func (PySem.W.fnOf "need_figures" "need_figures" (defArgs (tpS 10)) (defBody (tpS 10)) (defScope (tpS 10)) .none kV2 doc2 pm2 an2 cd2 ct2), osl2⟩) (q2 : PySem.W.codeIn K cd2 "need_figures" = true) (k2 : PySem.W.keepIn K (.ref f2) = true)
  (a3 : PySem.W.nsIn K mainGlobals "monomial_product" = some (some (.ref f3))) (l3 : K.lookup f3 = some ⟨oc3, od3, .func (PySem.W.fnOf "monomial_product" "monomial_product" (defArgs (tpS 11)) (defBody (tpS 11)) (defScope (tpS 11)) .none kV3 doc3 pm3 an3 cd3 ct3), osl3⟩) (q3 : PySem.W.codeIn K cd3 "monomial_product" = true) (k3 : PySem.W.keepIn K (.ref f3) = true)
  (a4 : PySem.W.nsIn K mainGlobals "plus" = some (some (.ref f4))) (l4 : K.lookup f4 = some ⟨oc4, od4, .func (PySem.W.fnOf "plus" "plus" (defArgs (tpS 12)) (defBody (tpS 12)) (defScope (tpS 12)) .none kV4 doc4 pm4 an4 cd4 ct4), osl4⟩) (q4 : PySem.W.codeIn K cd4 "plus" = true) (k4 : PySem.W.keepIn K (.ref f4) = true)
  (a5 : PySem.W.nsIn K mainGlobals "times" = some (some (.ref f5))) (l5 : K.lookup f5 = some ⟨oc5, od5, .func (PySem.W.fnOf "times" "times" (defArgs (tpS 13)) (defBody (tpS 13)) (defScope (tpS 13)) .none kV5 doc5 pm5 an5 cd5 ct5), osl5⟩) (q5 : PySem.W.codeIn K cd5 "times" = true) (k5 : PySem.W.keepIn K (.ref f5) = true)
  (a6 : PySem.W.nsIn K mainGlobals "added" = some (some (.ref f6))) (l6 : K.lookup f6 = some ⟨oc6, od6, .func (PySem.W.fnOf "added" "added" (defArgs (tpS 14)) (defBody (tpS 14)) (defScope (tpS 14)) .none kV6 doc6 pm6 an6 cd6 ct6), osl6⟩) (q6 : PySem.W.codeIn K cd6 "added" = true) (k6 : PySem.W.keepIn K (.ref f6) = true)
  (a7 : PySem.W.nsIn K mainGlobals "multiplied" = some (some (.ref f7))) (l7 : K.lookup f7 = some ⟨oc7, od7, .func (PySem.W.fnOf "multiplied" "multiplied" (defArgs (tpS 15)) (defBody (tpS 15)) (defScope (tpS 15)) .none kV7 doc7 pm7 an7 cd7 ct7), osl7⟩) (q7 : PySem.W.codeIn K cd7 "multiplied" = true) (k7 : PySem.W.keepIn K (.ref f7) = true)
  (a8 : PySem.W.nsIn K mainGlobals "_law_mix" = some (some (.ref f8))) (l8 : K.lookup f8 = some ⟨oc8, od8, .func (PySem.W.fnOf "_law_mix" "_law_mix" (defArgs (tpS 17)) (defBody (tpS 17)) (defScope (tpS 17)) .none kV8 doc8 pm8 an8 cd8 ct8), osl8⟩) (q8 : PySem.W.codeIn K cd8 "_law_mix" = true) (k8 : PySem.W.keepIn K (.ref f8) = true)
  (a9 : PySem.W.nsIn K mainGlobals "_law_box" = some (some (.ref f9))) (l9 : K.lookup f9 = some ⟨oc9, od9, .func (PySem.W.fnOf "_law_box" "_law_box" (defArgs (tpS 18)) (defBody (tpS 18)) (defScope (tpS 18)) .none kV9 doc9 pm9 an9 cd9 ct9), osl9⟩) (q9 : PySem.W.codeIn K cd9 "_law_box" = true) (k9 : PySem.W.keepIn K (.ref f9) = true)
  (a10 : PySem.W.nsIn K mainGlobals "_law_draw" = some (some (.ref f10))) (l10 : K.lookup f10 = some ⟨oc10, od10, .func (PySem.W.fnOf "_law_draw" "_law_draw" (defArgs (tpS 19)) (defBody (tpS 19)) (defScope (tpS 19)) .none kV10 doc10 pm10 an10 cd10 ct10), osl10⟩) (q10 : PySem.W.codeIn K cd10 "_law_draw" = true) (k10 : PySem.W.keepIn K (.ref f10) = true)
  (a11 : PySem.W.nsIn K mainGlobals "_law_alike" = some (some (.ref f11))) (l11 : K.lookup f11 = some ⟨oc11, od11, .func (PySem.W.fnOf "_law_alike" "_law_alike" (defArgs (tpS 20)) (defBody (tpS 20)) (defScope (tpS 20)) .none kV11 doc11 pm11 an11 cd11 ct11), osl11⟩) (q11 : PySem.W.codeIn K cd11 "_law_alike" = true) (k11 : PySem.W.keepIn K (.ref f11) = true)
  (a12 : PySem.W.nsIn K mainGlobals "_law_token" = some (some (.ref f12))) (l12 : K.lookup f12 = some ⟨oc12, od12, .func (PySem.W.fnOf "_law_token" "_law_token" (defArgs (tpS 21)) (defBody (tpS 21)) (defScope (tpS 21)) .none kV12 doc12 pm12 an12 cd12 ct12), osl12⟩) (q12 : PySem.W.codeIn K cd12 "_law_token" = true) (k12 : PySem.W.keepIn K (.ref f12) = true)
  (a13 : PySem.W.nsIn K mainGlobals "_law_sorted" = some (some (.ref f13))) (l13 : K.lookup f13 = some ⟨oc13, od13, .func (PySem.W.fnOf "_law_sorted" "_law_sorted" (defArgs (tpS 22)) (defBody (tpS 22)) (defScope (tpS 22)) .none kV13 doc13 pm13 an13 cd13 ct13), osl13⟩) (q13 : PySem.W.codeIn K cd13 "_law_sorted" = true) (k13 : PySem.W.keepIn K (.ref f13) = true)
  (a14 : PySem.W.nsIn K mainGlobals "_law_normal" = some (some (.ref f14))) (l14 : K.lookup f14 = some ⟨oc14, od14, .func (PySem.W.fnOf "_law_normal" "_law_normal" (defArgs (tpS 23)) (defBody (tpS 23)) (defScope (tpS 23)) .none kV14 doc14 pm14 an14 cd14 ct14), osl14⟩) (q14 : PySem.W.codeIn K cd14 "_law_normal" = true) (k14 : PySem.W.keepIn K (.ref f14) = true)
  (a15 : PySem.W.nsIn K mainGlobals "_law_monomial" = some (some (.ref f15))) (l15 : K.lookup f15 = some ⟨oc15, od15, .func (PySem.W.fnOf "_law_monomial" "_law_monomial" (defArgs (tpS 24)) (defBody (tpS 24)) (defScope (tpS 24)) .none kV15 doc15 pm15 an15 cd15 ct15), osl15⟩) (q15 : PySem.W.codeIn K cd15 "_law_monomial" = true) (k15 : PySem.W.keepIn K (.ref f15) = true)
  (a16 : PySem.W.nsIn K mainGlobals "_law_poly" = some (some (.ref f16))) (l16 : K.lookup f16 = some ⟨oc16, od16, .func (PySem.W.fnOf "_law_poly" "_law_poly" (defArgs (tpS 25)) (defBody (tpS 25)) (defScope (tpS 25)) .none kV16 doc16 pm16 an16 cd16 ct16), osl16⟩) (q16 : PySem.W.codeIn K cd16 "_law_poly" = true) (k16 : PySem.W.keepIn K (.ref f16) = true)
  (a17 : PySem.W.nsIn K mainGlobals "_law_plus" = some (some (.ref f17))) (l17 : K.lookup f17 = some ⟨oc17, od17, .func (PySem.W.fnOf "_law_plus" "_law_plus" (defArgs (tpS 27)) (defBody (tpS 27)) (defScope (tpS 27)) .none kV17 doc17 pm17 an17 cd17 ct17), osl17⟩) (q17 : PySem.W.codeIn K cd17 "_law_plus" = true) (k17 : PySem.W.keepIn K (.ref f17) = true)
  (a18 : PySem.W.nsIn K mainGlobals "_law_product" = some (some (.ref f18))) (l18 : K.lookup f18 = some ⟨oc18, od18, .func (PySem.W.fnOf "_law_product" "_law_product" (defArgs (tpS 28)) (defBody (tpS 28)) (defScope (tpS 28)) .none kV18 doc18 pm18 an18 cd18 ct18), osl18⟩) (q18 : PySem.W.codeIn K cd18 "_law_product" = true) (k18 : PySem.W.keepIn K (.ref f18) = true)
  (a19 : PySem.W.nsIn K mainGlobals "_law_times" = some (some (.ref f19))) (l19 : K.lookup f19 = some ⟨oc19, od19, .func (PySem.W.fnOf "_law_times" "_law_times" (defArgs (tpS 29)) (defBody (tpS 29)) (defScope (tpS 29)) .none kV19 doc19 pm19 an19 cd19 ct19), osl19⟩) (q19 : PySem.W.codeIn K cd19 "_law_times" = true) (k19 : PySem.W.keepIn K (.ref f19) = true)
  (a20 : PySem.W.nsIn K mainGlobals "_law_summed" = some (some (.ref f20))) (l20 : K.lookup f20 = some ⟨oc20, od20, .func (PySem.W.fnOf "_law_summed" "_law_summed" (defArgs (tpS 30)) (defBody (tpS 30)) (defScope (tpS 30)) .none kV20 doc20 pm20 an20 cd20 ct20), osl20⟩) (q20 : PySem.W.codeIn K cd20 "_law_summed" = true) (k20 : PySem.W.keepIn K (.ref f20) = true)
  (a21 : PySem.W.nsIn K mainGlobals "_law_multiplied" = some (some (.ref f21))) (l21 : K.lookup f21 = some ⟨oc21, od21, .func (PySem.W.fnOf "_law_multiplied" "_law_multiplied" (defArgs (tpS 31)) (defBody (tpS 31)) (defScope (tpS 31)) .none kV21 doc21 pm21 an21 cd21 ct21), osl21⟩) (q21 : PySem.W.codeIn K cd21 "_law_multiplied" = true) (k21 : PySem.W.keepIn K (.ref f21) = true)
  (a22 : PySem.W.nsIn K mainGlobals "_law_parted" = some (some (.ref f22))) (l22 : K.lookup f22 = some ⟨oc22, od22, .func (PySem.W.fnOf "_law_parted" "_law_parted" (defArgs (tpS 32)) (defBody (tpS 32)) (defScope (tpS 32)) .none kV22 doc22 pm22 an22 cd22 ct22), osl22⟩) (q22 : PySem.W.codeIn K cd22 "_law_parted" = true) (k22 : PySem.W.keepIn K (.ref f22) = true)
  (a23 : PySem.W.nsIn K mainGlobals "law" = some (some (.ref f23))) (l23 : K.lookup f23 = some ⟨oc23, od23, .func (PySem.W.fnOf "law" "law" (defArgs (tpS 33)) (defBody (tpS 33)) (defScope (tpS 33)) .none kV23 doc23 pm23 an23 cd23 ct23), osl23⟩) (q23 : PySem.W.codeIn K cd23 "law" = true) (k23 : PySem.W.keepIn K (.ref f23) = true) (ya0 : constIn K "MOST_TERMS" (.int 400) = true) (ya1 : constIn K "FIRST_TOO_GREAT" (.int 10000000000000000000000000000000000000000000000000000000000000000000000000000000000000000000000000000) = true) (ya2 : constIn K "ZERO" (.tuple []) = true) (ya3 : constIn K "ONE" (.tuple [(.tuple [(.tuple []), (.int 1)])]) = true) : LawG l w K n 63 "_law_script" mg fa h :=
  law_at KX G hmg (mgs_of KX G z1 z2 z3 z4 z5 z6 z7 z8 z9 z10 z11 z12 z13 z14 z15 z16 z17 z18 z19 z20) (constAt2 KX G ya0) (constAt2 KX G ya1) (constAt2 KX G ya2) (constAt2 KX G ya3) 
    (defAt KX G a0 l0 q0 k0) (defAt KX G a1 l1 q1 k1) (defAt KX G a2 l2 q2 k2) (defAt KX G a3 l3 q3 k3) (defAt KX G a4 l4 q4 k4) (defAt KX G a5 l5 q5 k5) (defAt KX G a6 l6 q6 k6) (defAt KX G a7 l7 q7 k7) (defAt KX G a8 l8 q8 k8) (defAt KX G a9 l9 q9 k9) (defAt KX G a10 l10 q10 k10) (defAt KX G a11 l11 q11 k11) (defAt KX G a12 l12 q12 k12) (defAt KX G a13 l13 q13 k13) (defAt KX G a14 l14 q14 k14) (defAt KX G a15 l15 q15 k15) (defAt KX G a16 l16 q16 k16) (defAt KX G a17 l17 q17 k17) (defAt KX G a18 l18 q18 k18) (defAt KX G a19 l19 q19 k19) (defAt KX G a20 l20 q20 k20) (defAt KX G a21 l21 q21 k21) (defAt KX G a22 l22 q22 k22) (defAt KX G a23 l23 q23 k23)  plain
end PV

set_option maxHeartbeats 4000000
namespace PV
open PySem
/-! from PW3 -/
theorem mulOk_r {i j : Int} (h1 : -18446744073709551616 < j) (h2 : j < 18446744073709551616) : mulOk i j = true := by
  unfold mulOk
  have a1 : decide (-(2 ^ 64 : Int) < j) = true := decide_eq_true (by simpa using h1)
  have a2 : decide (j < (2 ^ 64 : Int)) = true := decide_eq_true (by simpa using h2)
  rw [a1, a2]
  simp
theorem mulOk_l {i j : Int} (h1 : -18446744073709551616 < i) (h2 : i < 18446744073709551616) : mulOk i j = true := by
  unfold mulOk
  have a1 : decide (-(2 ^ 64 : Int) < i) = true := decide_eq_true (by simpa using h1)
  have a2 : decide (i < (2 ^ 64 : Int)) = true := decide_eq_true (by simpa using h2)
  rw [a1, a2]
  simp
theorem fmod_lo (a : Int) {b : Int} (h : 0 < b) : 0 ≤ a.fmod b := Int.fmod_nonneg_of_pos a h
theorem fmod_hi (a : Int) {b : Int} (h : 0 < b) : a.fmod b < b := Int.fmod_lt_of_pos a h
theorem ex_app {pg : Pg} {C : Orc} : ∀ (xs ys : List S) (ρ : Rho), exSs pg C (xs ++ ys) ρ = (match exSs pg C xs ρ with | .nx ρ1 => exSs pg C ys ρ1 | r => r)
  | [], ys, ρ => by rw [List.nil_append, ex_0]
  | x :: xs, ys, ρ => by
    rw [List.cons_append, ex_1, ex_1]
    cases exS pg C x ρ with
    | nx ρ1 => exact ex_app xs ys ρ1
    | _ => rfl
theorem pEq_int {a b : Int} : pEq [.int a, .int b] = some (.bool (decide (a = b))) := by
  have : PyData.eqv (.int a) (.int b) = decide (a = b) := by rw [PyData.eqv]; by_cases h : a = b <;> simp [h]
  show (if cmpOk (.int a) (.int b) then some (PyData.bool (PyData.eqv (.int a) (.int b))) else none) = _
  rw [this, if_pos (isT_cmp (t := .int) rfl rfl (by decide))]
theorem pNe_int {a b : Int} : pNe [.int a, .int b] = some (.bool (!decide (a = b))) := by
  have : PyData.eqv (.int a) (.int b) = decide (a = b) := by rw [PyData.eqv]; by_cases h : a = b <;> simp [h]
  show (if cmpOk (.int a) (.int b) then some (PyData.bool (!PyData.eqv (.int a) (.int b))) else none) = _
  rw [this, if_pos (isT_cmp (t := .int) rfl rfl (by decide))]
theorem pLt_int {a b : Int} : pLt [.int a, .int b] = some (.bool (decide (a < b))) := by
  show (if ordOk (.int a) (.int b) then some (PyData.bool (PySem.W.dataLt (.int a) (.int b))) else none) = _
  rw [PySem.W.dataLt_int, if_pos (isT_ord (t := .int) rfl rfl (by decide))]
theorem pGt_int {a b : Int} : pGt [.int a, .int b] = some (.bool (decide (b < a))) := by
  show (if ordOk (.int a) (.int b) then some (PyData.bool (PySem.W.dataLt (.int b) (.int a))) else none) = _
  rw [PySem.W.dataLt_int, if_pos (isT_ord (t := .int) rfl rfl (by decide))]
section
variable {a b c d e f v : D}
theorem ix6_0 : pIdx [.list [a, b, c, d, e, f], .int 0] = some a := rfl
theorem ix6_1 : pIdx [.list [a, b, c, d, e, f], .int 1] = some b := rfl
theorem ix6_2 : pIdx [.list [a, b, c, d, e, f], .int 2] = some c := rfl
theorem ix6_3 : pIdx [.list [a, b, c, d, e, f], .int 3] = some d := rfl
theorem ix6_4 : pIdx [.list [a, b, c, d, e, f], .int 4] = some e := rfl
theorem ix6_5 : pIdx [.list [a, b, c, d, e, f], .int 5] = some f := rfl
theorem pu6_0 : putAt (.list [a, b, c, d, e, f]) (.int 0) v = some (.list [v, b, c, d, e, f]) := rfl
theorem pu6_1 : putAt (.list [a, b, c, d, e, f]) (.int 1) v = some (.list [a, v, c, d, e, f]) := rfl
theorem pu6_2 : putAt (.list [a, b, c, d, e, f]) (.int 2) v = some (.list [a, b, v, d, e, f]) := rfl
theorem pu6_5 : putAt (.list [a, b, c, d, e, f]) (.int 5) v = some (.list [a, b, c, d, e, v]) := rfl
end
theorem pIdx_ints {cs : List Int} {i : Int} (h0 : 0 ≤ i) (h1 : i < cs.length) : ∃ z : Int, pIdx [.list (cs.map PyData.int), .int i] = some (.int z) := by
  refine ⟨cs[i.toNat]'(by omega), ?_⟩
  show L2.atI (cs.map PyData.int) i = _
  unfold L2.atI L2.ixN
  rw [if_pos h0, if_pos (by rw [List.length_map]; exact h1)]
  simp [List.getElem?_eq_getElem (show i.toNat < cs.length by omega)]
/-! from PW4 -/
def hasD (ds : List D) (x : D) : Bool := ds.any fun z => PyData.eqv z x
theorem hasD_iff {t : Ty} {x : D} {ds : List D} (hx : isT t x = true) (h : ∀ z ∈ ds, isT t z = true) : hasD ds x = true ↔ x ∈ ds := by
  unfold hasD
  rw [List.any_eq_true]
  constructor
  · rintro ⟨z, hz, e⟩
    rw [← (isT_eqv t z x (h z hz) hx).mp e]
    exact hz
  · exact fun hz => ⟨x, hz, (isT_eqv t x x hx hx).mpr rfl⟩
theorem hasD_no {t : Ty} {x : D} {ds : List D} (hx : isT t x = true) (h : ∀ z ∈ ds, isT t z = true) (hn : x ∉ ds) : hasD ds x = false := by
  cases q : hasD ds x with
  | false => rfl
  | true => exact absurd ((hasD_iff hx h).mp q) hn
theorem pNotin_list {t : Ty} {x : D} {ds : List D} (ht : t.dep ≤ 60) (hx : isT t x = true) (h : ∀ z ∈ ds, isT t z = true) : pNotin [x, .list ds] = some (.bool (!hasD ds x)) := by
  show (if flatOk x && PyData.plainAll ds then some (PyData.bool (!ds.any fun z => PyData.eqv z x)) else none) = _
  rw [isT_flat hx ht, (plainAll_iff ds).mpr fun z hz => isT_plain t z (h z hz)]
  rfl
theorem pNotin_tuple {t : Ty} {x : D} {ds : List D} (ht : t.dep ≤ 60) (hx : isT t x = true) (h : ∀ z ∈ ds, isT t z = true) : pNotin [x, .tuple ds] = some (.bool (!hasD ds x)) := by
  show (if flatOk x && PyData.plainAll ds then some (PyData.bool (!ds.any fun z => PyData.eqv z x)) else none) = _
  rw [isT_flat hx ht, (plainAll_iff ds).mpr fun z hz => isT_plain t z (h z hz)]
  rfl
theorem pIsin_list {t : Ty} {x : D} {ds : List D} (ht : t.dep ≤ 60) (hx : isT t x = true) (h : ∀ z ∈ ds, isT t z = true) : pIsin [x, .list ds] = some (.bool (hasD ds x)) := by
  show (if flatOk x && PyData.plainAll ds then some (PyData.bool (ds.any fun z => PyData.eqv z x)) else none) = _
  rw [isT_flat hx ht, (plainAll_iff ds).mpr fun z hz => isT_plain t z (h z hz)]
  rfl
theorem pIsin_tuple {t : Ty} {x : D} {ds : List D} (ht : t.dep ≤ 60) (hx : isT t x = true) (h : ∀ z ∈ ds, isT t z = true) : pIsin [x, .tuple ds] = some (.bool (hasD ds x)) := by
  show (if flatOk x && PyData.plainAll ds then some (PyData.bool (ds.any fun z => PyData.eqv z x)) else none) = _
  rw [isT_flat hx ht, (plainAll_iff ds).mpr fun z hz => isT_plain t z (h z hz)]
  rfl
theorem pLt_t {t : Ty} {x y : D} (ht : t.dep ≤ 60) (hx : isT t x = true) (hy : isT t y = true) : pLt [x, y] = some (.bool (PySem.W.dataLt x y)) := by
  show (if ordOk x y then some (PyData.bool (PySem.W.dataLt x y)) else none) = _
  rw [if_pos (isT_ord hx hy ht)]
theorem pGt_t {t : Ty} {x y : D} (ht : t.dep ≤ 60) (hx : isT t x = true) (hy : isT t y = true) : pGt [x, y] = some (.bool (PySem.W.dataLt y x)) := by
  show (if ordOk x y then some (PyData.bool (PySem.W.dataLt y x)) else none) = _
  rw [if_pos (isT_ord hx hy ht)]
/-! from PW5 -/
def atomOk : D → Bool
  | .int i => decide (0 ≤ i) && decide (i < 1000000000)
  | .str s => decide (s.length ≤ 20) && s.cps.toList.all fun c => decide (c < 16 ^ 8)
  | .bool _ => true
  | _ => false
def OkN (m : Nat) : Nat → D → Prop
  | 0, r => atomOk r = true
  | k + 1, r => atomOk r = true ∨ ∃ rs, (r = .list rs ∨ r = .tuple rs) ∧ rs.length ≤ m ∧ ∀ x ∈ rs, OkN m k x
def TN (m : Nat) : Nat → D → Prop
  | 0, r => atomOk r = true
  | k + 1, r => atomOk r = true ∨ ∃ rs, r = .tuple rs ∧ rs.length ≤ m ∧ ∀ x ∈ rs, TN m k x
def fz : Nat → D → D
  | 0, r => r
  | k + 1, r => match r with
    | .list rs => .tuple (rs.map (fz k))
    | .tuple rs => .tuple (rs.map (fz k))
    | _ => r
theorem atom_cases {d : D} (h : atomOk d = true) : (∃ i, d = .int i) ∨ (∃ s, d = .str s) ∨ ∃ b, d = .bool b := by
  cases d with
  | int i => exact .inl ⟨i, rfl⟩
  | str s => exact .inr (.inl ⟨s, rfl⟩)
  | bool s => exact .inr (.inr ⟨s, rfl⟩)
  | _ => cases h
theorem fz_atom {d : D} (h : atomOk d = true) : ∀ k, fz k d = d
  | 0 => rfl
  | k + 1 => by rcases atom_cases h with ⟨i, rfl⟩ | ⟨s, rfl⟩ | ⟨s, rfl⟩ <;> rfl
theorem TN.ok {m : Nat} : ∀ {k : Nat} {d : D}, TN m k d → OkN m k d
  | 0, _, h => h
  | k + 1, _, .inl h => .inl h
  | k + 1, _, .inr ⟨rs, e, l, h⟩ => .inr ⟨rs, .inr e, l, fun x hx => TN.ok (h x hx)⟩
theorem map_id_of {f : D → D} {l : List D} (h : ∀ x ∈ l, f x = x) : l.map f = l := by
  rw [List.map_congr_left h, List.map_id']
theorem TN.fz {m : Nat} : ∀ {k : Nat} {d : D}, TN m k d → PV.fz k d = d
  | 0, _, h => rfl
  | k + 1, _, .inl h => fz_atom h _
  | k + 1, _, .inr ⟨rs, e, l, h⟩ => by
    subst e
    show PyData.tuple (rs.map (PV.fz k)) = _
    rw [map_id_of fun x hx => TN.fz (h x hx)]
theorem TN.mono {m m' : Nat} (hm : m ≤ m') : ∀ {k : Nat} {d : D}, TN m k d → TN m' k d
  | 0, _, h => h
  | k + 1, _, .inl h => .inl h
  | k + 1, _, .inr ⟨rs, e, l, h⟩ => .inr ⟨rs, e, Nat.le_trans l hm, fun x hx => TN.mono hm (h x hx)⟩
theorem src_rng (m : Nat) (h : m < 2 ^ 62) : srcOf .rng1 [.int (m : Int)] = some ((List.range m).map fun (k : Nat) => PyData.int (k : Int)) := by
  have h1 : decide (-(2 ^ 62 : Int) ≤ (m : Int)) = true := decide_eq_true (by omega)
  have h2 : decide ((m : Int) < (2 ^ 62 : Int)) = true := decide_eq_true (by omega)
  simp only [srcOf, h1, h2, Bool.and_self, if_true, Int.toNat_natCast]
theorem pIdx_tuple {ds : List D} {j : Nat} {d : D} (h : ds[j]? = some d) : pIdx [.tuple ds, .int (j : Int)] = some d := by
  show L2.atI ds (j : Int) = _
  have hj := (List.getElem?_eq_some_iff.mp h).1
  unfold L2.atI L2.ixN
  rw [if_pos (by omega), if_pos (by omega)]
  exact h
theorem pIdx_list {ds : List D} {j : Nat} {d : D} (h : ds[j]? = some d) : pIdx [.list ds, .int (j : Int)] = some d := by
  show L2.atI ds (j : Int) = _
  have hj := (List.getElem?_eq_some_iff.mp h).1
  unfold L2.atI L2.ixN
  rw [if_pos (by omega), if_pos (by omega)]
  exact h
theorem pNe_bool {a b : Bool} : pNe [.bool a, .bool b] = some (.bool (a != b)) := by cases a <;> cases b <;> rfl
theorem sum_le {f : D → Nat} {b : Nat} : ∀ {l : List D}, (∀ x ∈ l, f x ≤ b) → (l.map f).sum ≤ l.length * b
  | [], _ => by simp
  | x :: l, h => by
    rw [List.map_cons, List.sum_cons, List.length_cons, Nat.succ_mul]
    have := sum_le (l := l) (b := b) fun z hz => h z (by simp [hz])
    have := h x (by simp)
    omega
theorem shownAll_map : ∀ l : List D, PyData.shownAll l = l.map PyData.shown
  | [] => by simp [PyData.shownAll]
  | x :: l => by simp [PyData.shownAll, shownAll_map l]
theorem showableAll_iff : ∀ l : List D, PyData.showableAll l = true ↔ ∀ x ∈ l, x.showable = true
  | [] => by simp [PyData.showableAll]
  | x :: l => by simp [PyData.showableAll, showableAll_iff l]
def bnd (m : Nat) : Nat → Nat
  | 0 => 210
  | k + 1 => m * bnd m k + 2 * m + 210
theorem atom_shown {d : D} (h : atomOk d = true) : d.shown.length ≤ 210 ∧ d.showable = true ∧ d.plain = true ∧ d.depth = 0 := by
  rcases atom_cases h with ⟨i, rfl⟩ | ⟨s, rfl⟩ | ⟨s, rfl⟩
  · have h : (decide (0 ≤ i) && decide (i < 1000000000)) = true := h
    rw [Bool.and_eq_true, decide_eq_true_eq, decide_eq_true_eq] at h
    refine ⟨?_, ?_, by simp [PyData.plain], by simp [PyData.depth]⟩
    · have := PySem.W.KT.len_num (n := i) h.1 (by omega)
      rw [PyData.shown]
      exact Nat.le_trans this (by decide)
    · rw [PyData.showable, decide_eq_true_eq]
      by_cases z : i.natAbs = 0
      · rw [z]; decide
      · rw [Nat.log2_lt z]
        exact Nat.lt_of_lt_of_le (show i.natAbs < 2 ^ 30 by omega) (Nat.pow_le_pow_right (by decide) (by decide))
  · have h : (decide (s.length ≤ 20) && s.cps.toList.all fun c => decide (c < 16 ^ 8)) = true := h
    rw [Bool.and_eq_true, decide_eq_true_eq, List.all_eq_true] at h
    refine ⟨?_, by simp [PyData.showable], by simp [PyData.plain], by simp [PyData.depth]⟩
    have := PySem.StrLaws.reprText_len s fun c hc => of_decide_eq_true (h.2 c hc)
    rw [PyData.shown]
    omega
  · refine ⟨?_, by simp [PyData.showable], by simp [PyData.plain], by simp [PyData.depth]⟩
    rw [PyData.shown]
    cases s <;> decide
theorem okN_shown {m : Nat} : ∀ {k : Nat} {r : D}, OkN m k r → r.shown.length ≤ bnd m k ∧ r.showable = true ∧ r.plain = true ∧ r.depth ≤ k
  | 0, r, h => by
    obtain ⟨a, b, c, d⟩ := atom_shown h
    exact ⟨a, b, c, by omega⟩
  | k + 1, r, .inl h => by
    obtain ⟨a, b, c, d⟩ := atom_shown h
    refine ⟨?_, b, c, by omega⟩
    show _ ≤ m * bnd m k + 2 * m + 210
    omega
  | k + 1, r, .inr ⟨rs, e, hl, h⟩ => by
    have ih := fun x hx => okN_shown (h x hx)
    have s1 : ((PyData.shownAll rs).map (·.length)).sum ≤ m * bnd m k := by
      rw [shownAll_map, List.map_map]
      exact Nat.le_trans (sum_le fun x hx => (ih x hx).1) (Nat.mul_le_mul_right _ hl)
    have s2 : (PyData.shownAll rs).length ≤ m := by rw [shownAll_map, List.length_map]; exact hl
    have s3 := (showableAll_iff rs).mpr fun x hx => (ih x hx).2.1
    have s4 := (plainAll_iff rs).mpr fun x hx => (ih x hx).2.2.1
    have s5 := depthAll_le (n := k) rs fun x hx => (ih x hx).2.2.2
    rcases e with rfl | rfl
    · have := PySem.listText_len_le (PyData.shownAll rs)
      refine ⟨?_, by rw [PyData.showable]; exact s3, by rw [PyData.plain]; exact s4, by rw [PyData.depth]; omega⟩
      rw [PyData.shown]
      show _ ≤ m * bnd m k + 2 * m + 210
      omega
    · have := PySem.tupleText_len_le (PyData.shownAll rs)
      refine ⟨?_, by rw [PyData.showable]; exact s3, by rw [PyData.plain]; exact s4, by rw [PyData.depth]; omega⟩
      rw [PyData.shown]
      show _ ≤ m * bnd m k + 2 * m + 210
      omega
theorem pRepr_ok {m k : Nat} {r : D} (h : OkN m k r) (hb : bnd m k ≤ sizeLine) (hk : k ≤ 60) (hs : isSeqD r = true) : pRepr1 [r] = some (.str r.shown) := by
  obtain ⟨a, b, c, d⟩ := okN_shown h
  show (if r.showable && r.plain && decide (r.shown.length ≤ sizeLine) && decide (r.depth ≤ 60) && isSeqD r then some (PyData.str r.shown) else none) = _
  rw [b, c, hs, decide_eq_true (Nat.le_trans a hb), decide_eq_true (Nat.le_trans d hk)]
  rfl
/-! from PW6 -/
theorem pAdd_ii {a b : Int} : pAdd [.int a, .int b] = some (.int (a + b)) := rfl
theorem nodup_len {l T : List D} (h : l.Nodup) (s : ∀ x ∈ l, x ∈ T) : l.length ≤ T.length := by
  induction l generalizing T with
  | nil => exact Nat.zero_le _
  | cons x l ih =>
    rw [List.nodup_cons] at h
    obtain ⟨a, b, rfl⟩ := List.append_of_mem (s x (by simp))
    have := ih (T := a ++ b) h.2 fun z hz => by
      have := s z (by simp [hz])
      rw [List.mem_append, List.mem_cons] at this
      rw [List.mem_append]
      rcases this with q | q | q
      · exact .inl q
      · exact absurd hz (by rw [q]; exact h.1)
      · exact .inr q
    simp only [List.length_append, List.length_cons] at this ⊢
    omega
theorem pIdx_mem {ds : List D} {v : Int} (h0 : 0 ≤ v) (h1 : v < ds.length) : ∃ d ∈ ds, pIdx [.list ds, .int v] = some d := by
  obtain ⟨j, rfl⟩ := Int.eq_ofNat_of_zero_le h0
  have hj : j < ds.length := by omega
  exact ⟨ds[j], List.getElem_mem hj, pIdx_list (List.getElem?_eq_getElem hj)⟩
theorem pIdx_int {ds : List D} {v : Int} {P : Int → Prop} (h0 : 0 ≤ v) (h1 : v < ds.length) (hp : ∀ d ∈ ds, ∃ a, d = .int a ∧ P a) : ∃ a, pIdx [.list ds, .int v] = some (.int a) ∧ P a := by
  obtain ⟨d, hd, e⟩ := pIdx_mem h0 h1
  obtain ⟨a, rfl, h⟩ := hp d hd
  exact ⟨a, e, h⟩
mutual
theorem nk_inj : ∀ (t : Ty) (x y : D), isT t x = true → isT t y = true → nk x = nk y → x = y
  | .int, x, y, h1, h2, e => by
    obtain ⟨i, rfl⟩ := isT_int h1
    obtain ⟨j, rfl⟩ := isT_int h2
    simpa [nk] using e
  | .str, x, y, h1, h2, e => by
    obtain ⟨i, rfl⟩ := isT_str h1
    obtain ⟨j, rfl⟩ := isT_str h2
    simpa [nk] using e
  | .seq t, x, y, h1, h2, e => by
    obtain ⟨xs, rfl, q1⟩ := isT_seq h1
    obtain ⟨ys, rfl, q2⟩ := isT_seq h2
    rw [nk, nk, NestedKey.tup.injEq] at e
    rw [nks_inj t xs ys q1 q2 e]
  | .pair a b, x, y, h1, h2, e => by
    obtain ⟨x1, x2, rfl, q1, q2⟩ := isT_pair h1
    obtain ⟨y1, y2, rfl, q3, q4⟩ := isT_pair h2
    rw [nk, nk, NestedKey.tup.injEq] at e
    simp only [List.map_cons, List.map_nil, List.cons.injEq, and_true] at e
    rw [nk_inj a x1 y1 q1 q3 e.1, nk_inj b x2 y2 q2 q4 e.2]
theorem nks_inj : ∀ (t : Ty) (xs ys : List D), (∀ x ∈ xs, isT t x = true) → (∀ y ∈ ys, isT t y = true) → xs.map nk = ys.map nk → xs = ys
  | t, [], [], _, _, _ => rfl
  | t, [], _ :: _, _, _, e => by simp at e
  | t, _ :: _, [], _, _, e => by simp at e
  | t, x :: xs, y :: ys, h1, h2, e => by
    rw [List.map_cons, List.map_cons, List.cons.injEq] at e
    rw [nk_inj t x y (h1 x (by simp)) (h2 y (by simp)) e.1, nks_inj t xs ys (fun z hz => h1 z (by simp [hz])) (fun z hz => h2 z (by simp [hz])) e.2]
end
theorem keyEq_iff {t : Ty} {x y : D} (h1 : isT t x = true) (h2 : isT t y = true) : keyEq x y = true ↔ x = y := by
  rw [keyEq_nk, decide_eq_true_eq]
  exact ⟨nk_inj t x y h1 h2, fun e => by rw [e]⟩
theorem keyEq_no {t : Ty} {x y : D} (h1 : isT t x = true) (h2 : isT t y = true) (hn : x ≠ y) : keyEq x y = false := by
  cases q : keyEq x y with
  | false => rfl
  | true => exact absurd ((keyEq_iff h1 h2).mp q) hn
theorem keyOks_of {xs : List D} (h : ∀ x ∈ xs, keyOk x = true) : keyOks xs = true := by
  induction xs with
  | nil => simp [keyOks]
  | cons x xs ih => simp [keyOks, h x (by simp), ih fun z hz => h z (by simp [hz])]
theorem isT_keyOk : ∀ (t : Ty) (x : D), isT t x = true → keyOk x = true
  | .int, x, h => by obtain ⟨i, rfl⟩ := isT_int h; simp [keyOk]
  | .str, x, h => by obtain ⟨i, rfl⟩ := isT_str h; simp [keyOk]
  | .seq t, x, h => by
    obtain ⟨xs, rfl, q⟩ := isT_seq h
    rw [keyOk]
    exact keyOks_of fun z hz => isT_keyOk t z (q z hz)
  | .pair a b, x, h => by
    obtain ⟨x1, x2, rfl, q1, q2⟩ := isT_pair h
    simp [keyOk, keyOks, isT_keyOk a x1 q1, isT_keyOk b x2 q2]
theorem nkAll_le {n : Nat} : ∀ xs : List D, (∀ x ∈ xs, (nk x).depth ≤ n) → NestedKey.depthAll (xs.map nk) ≤ n
  | [], _ => by simp [NestedKey.depthAll]
  | x :: xs, h => by
    rw [List.map_cons, NestedKey.depthAll]
    exact Nat.max_le.mpr ⟨h x (by simp), nkAll_le xs fun z hz => h z (by simp [hz])⟩
theorem isT_nkdep : ∀ (t : Ty) (x : D), isT t x = true → (nk x).depth ≤ t.dep
  | .int, x, h => by obtain ⟨i, rfl⟩ := isT_int h; simp [nk, NestedKey.depth]
  | .str, x, h => by obtain ⟨i, rfl⟩ := isT_str h; simp [nk, NestedKey.depth]
  | .seq t, x, h => by
    obtain ⟨xs, rfl, q⟩ := isT_seq h
    rw [nk, NestedKey.depth, Ty.dep]
    exact Nat.succ_le_succ (nkAll_le xs fun z hz => isT_nkdep t z (q z hz))
  | .pair a b, x, h => by
    obtain ⟨x1, x2, rfl, q1, q2⟩ := isT_pair h
    have e1 := isT_nkdep a x1 q1
    have e2 := isT_nkdep b x2 q2
    rw [nk, NestedKey.depth, Ty.dep]
    refine Nat.succ_le_succ (nkAll_le _ fun z hz => ?_)
    rcases List.mem_cons.mp hz with rfl | hz
    · omega
    · rw [List.mem_singleton.mp hz]; omega
theorem keyKd_T {t : Ty} {ds : List D} (h : isT t (.tuple ds) = true) (ht : t.dep ≤ 8) : keyKd (.tuple ds) = 2 := by
  have h1 : keyOks ds = true := by have := isT_keyOk t _ h; rwa [keyOk] at this
  have h2 := isT_nkdep t _ h
  show (if keyOks ds && decide ((nk (.tuple ds)).depth ≤ 8) then 2 else 0) = 2
  rw [h1, decide_eq_true (by omega)]
  rfl
def isTup : D → Bool
  | .tuple _ => true
  | _ => false
theorem keyKd_tup {t : Ty} {d : D} (h : isT t d = true) (ht : t.dep ≤ 8) (hu : isTup d = true) : keyKd d = 2 := by
  cases d with
  | tuple ds => exact keyKd_T h ht
  | _ => cases hu
theorem keyFits_T {t : Ty} {k : D} {kvs : List (D × D)} (h : isT t k = true) (ht : t.dep ≤ 8) (hu : isTup k = true) (hk : ∀ p ∈ kvs, isT t p.1 = true ∧ isTup p.1 = true) : keyFits k kvs = true := by
  cases kvs with
  | nil => show (keyKd k != 0) = true; rw [keyKd_tup h ht hu]; rfl
  | cons p r =>
    obtain ⟨a, b⟩ := hk p (by simp)
    show (keyKd k != 0 && keyKd p.1 == keyKd k) = true
    rw [keyKd_tup h ht hu, keyKd_tup a ht b]
    rfl
theorem dlook_some {t : Ty} {k : D} (hT : isT t k = true) : ∀ {kvs : List (D × D)}, (∀ p ∈ kvs, isT t p.1 = true) → k ∈ kvs.map (·.1) → ∃ p ∈ kvs, p.1 = k ∧ dlook k kvs = some p.2
  | [], _, h => by simp at h
  | p :: r, hk, h => by
    by_cases e : p.1 = k
    · refine ⟨p, by simp, e, ?_⟩
      show (if keyEq p.1 k then some p.2 else dlook k r) = _
      rw [if_pos ((keyEq_iff (hk p (by simp)) hT).mpr e)]
    · have h : k ∈ r.map (·.1) := by
        rcases List.mem_cons.mp h with q | q
        · exact absurd q.symm e
        · exact q
      obtain ⟨q, h1, h2, h3⟩ := dlook_some hT (kvs := r) (fun z hz => hk z (by simp [hz])) h
      refine ⟨q, by simp [h1], h2, ?_⟩
      show (if keyEq p.1 k then some p.2 else dlook k r) = _
      rw [if_neg (by rw [keyEq_no (hk p (by simp)) hT e]; decide)]
      exact h3
theorem dlook_none {t : Ty} {k : D} (hT : isT t k = true) : ∀ {kvs : List (D × D)}, (∀ p ∈ kvs, isT t p.1 = true) → k ∉ kvs.map (·.1) → dlook k kvs = none
  | [], _, h => rfl
  | p :: r, hk, h => by
    rw [List.map_cons, List.mem_cons, not_or] at h
    show (if keyEq p.1 k then some p.2 else dlook k r) = _
    rw [if_neg (by rw [keyEq_no (hk p (by simp)) hT (Ne.symm h.1)]; decide)]
    exact dlook_none hT (fun z hz => hk z (by simp [hz])) h.2
theorem dput_new {t : Ty} {k v : D} (hT : isT t k = true) : ∀ {kvs : List (D × D)}, (∀ p ∈ kvs, isT t p.1 = true) → k ∉ kvs.map (·.1) → dput k v kvs = kvs ++ [(k, v)]
  | [], _, _ => rfl
  | p :: r, hk, h => by
    rw [List.map_cons, List.mem_cons, not_or] at h
    show (if keyEq p.1 k then (p.1, v) :: r else p :: dput k v r) = _
    rw [if_neg (by rw [keyEq_no (hk p (by simp)) hT (Ne.symm h.1)]; decide), dput_new hT (fun z hz => hk z (by simp [hz])) h.2]
    rfl
theorem dput_old {t : Ty} {k v : D} (hT : isT t k = true) : ∀ {kvs : List (D × D)}, (∀ p ∈ kvs, isT t p.1 = true) → k ∈ kvs.map (·.1) → (dput k v kvs).map (·.1) = kvs.map (·.1) ∧ ∀ p ∈ dput k v kvs, p ∈ kvs ∨ p = (k, v)
  | [], _, h => by simp at h
  | p :: r, hk, h => by
    by_cases e : p.1 = k
    · have : dput k v (p :: r) = (p.1, v) :: r := by
        show (if keyEq p.1 k then (p.1, v) :: r else p :: dput k v r) = _
        rw [if_pos ((keyEq_iff (hk p (by simp)) hT).mpr e)]
      rw [this]
      refine ⟨rfl, fun q hq => ?_⟩
      rcases List.mem_cons.mp hq with z | z
      · exact .inr (by rw [z, e])
      · exact .inl (by simp [z])
    · have h : k ∈ r.map (·.1) := by
        rcases List.mem_cons.mp h with q | q
        · exact absurd q.symm e
        · exact q
      obtain ⟨h1, h2⟩ := dput_old (v := v) hT (kvs := r) (fun z hz => hk z (by simp [hz])) h
      have : dput k v (p :: r) = p :: dput k v r := by
        show (if keyEq p.1 k then (p.1, v) :: r else p :: dput k v r) = _
        rw [if_neg (by rw [keyEq_no (hk p (by simp)) hT e]; decide)]
      rw [this]
      refine ⟨by rw [List.map_cons, h1, List.map_cons], fun q hq => ?_⟩
      rcases List.mem_cons.mp hq with z | z
      · exact .inl (by simp [z])
      · rcases h2 q z with w | w
        · exact .inl (by simp [w])
        · exact .inr w
def tokOf (c : Nat) (a : Int) : D := .str (oneSign c ++ (toString a : String))
def isTok (d : D) : Prop := isT .str d = true ∧ atomOk d = true
theorem str_app {a b : Str} : (a ++ b).cps.toList = a.cps.toList ++ b.cps.toList := by
  show (a.cps ++ b.cps).toList = _
  simp
theorem tok_inj {c : Nat} {a b : Int} (ha : 0 ≤ a) (ha2 : a < 10000) (hb : 0 ≤ b) (hb2 : b < 10000) (e : tokOf c a = tokOf c b) : a = b := by
  have e : oneSign c ++ (toString a : String) = oneSign c ++ (toString b : String) := by injection e
  have e2 : (Str.ofString (toString a)).cps.toList = (Str.ofString (toString b)).cps.toList := by
    have := congrArg (fun s : Str => s.cps.toList) e
    simp only [str_app] at this
    exact List.append_cancel_left this
  have e3 : Str.ofString (toString a) = Str.ofString (toString b) := PySem.W.str_of_cps e2
  have h1 := PySem.W.KIN.num_reads (n := a) ha (by omega)
  have h2 := PySem.W.KIN.num_reads (n := b) hb (by omega)
  rw [e3, h2] at h1
  injection h1 with h1
  exact h1.symm
theorem tok_isTok {c : Nat} {a : Int} (hc : c < 128) (ha : 0 ≤ a) (ha2 : a < 10000) : isTok (tokOf c a) := by
  refine ⟨rfl, ?_⟩
  show (decide ((oneSign c ++ (toString a : String)).length ≤ 20) && (oneSign c ++ (toString a : String)).cps.toList.all fun c => decide (c < 16 ^ 8)) = true
  have l1 := PySem.W.KT.len_num (n := a) ha (by omega)
  rw [Bool.and_eq_true, decide_eq_true_eq, strLen_append, List.all_eq_true]
  refine ⟨?_, fun x hx => ?_⟩
  · have : (oneSign c).length = 1 := rfl
    omega
  · rw [str_app, List.mem_append] at hx
    rw [decide_eq_true_eq]
    rcases hx with hx | hx
    · have : x = c := by
        have : x ∈ [c] := hx
        simpa using this
      omega
    · obtain ⟨m, rfl⟩ := Int.eq_ofNat_of_zero_le ha
      rw [PySem.W.KIN.signs_num] at hx
      obtain ⟨ch, _, rfl⟩ := List.mem_map.mp hx
      have := ch.val.toNat_lt
      exact this
theorem letter_at {v : Int} (h0 : 0 ≤ v) (h1 : v < 3) : ∃ c : Nat, c < 128 ∧ pIdx [.str "abz", .int v] = some (.str (oneSign c)) := by
  have : v = 0 ∨ v = 1 ∨ v = 2 := by omega
  rcases this with rfl | rfl | rfl
  · exact ⟨97, by decide, by rfl⟩
  · exact ⟨98, by decide, by rfl⟩
  · exact ⟨122, by decide, by rfl⟩
theorem pStr1_small {a : Int} (h0 : 0 ≤ a) (h1 : a < 10000) : pStr1 [.int a] = some (.str (toString a : String)) := by
  show (if a.natAbs.log2 < 1920 then some (PyData.str (toString a : String)) else none) = _
  rw [if_pos ?_]
  by_cases z : a.natAbs = 0
  · rw [z]; decide
  · rw [Nat.log2_lt z]
    exact Nat.lt_of_lt_of_le (show a.natAbs < 2 ^ 30 by omega) (Nat.pow_le_pow_right (by decide) (by decide))
theorem pAdd_tok {c : Nat} {a : Int} (ha : 0 ≤ a) (ha2 : a < 10000) : pAdd [.str (oneSign c), .str (toString a : String)] = some (tokOf c a) := by
  have l1 := PySem.W.KT.len_num (n := a) ha (by omega)
  show (if fitsLn ((oneSign c).length + (Str.ofString (toString a)).length) then some (tokOf c a) else none) = _
  rw [if_pos]
  unfold fitsLn
  rw [decide_eq_true_eq]
  have : (oneSign c).length = 1 := rfl
  unfold sizeLine
  omega
def sh (a : Int) (j : Nat) : Int := 1 + (a - 1 + j) % 9999
/-! from PW7 -/
theorem ft0 : fitsLn 0 = true := decide_eq_true (by unfold sizeLine; omega)
theorem ft1 : fitsLn 1 = true := decide_eq_true (by unfold sizeLine; omega)
theorem ft2 : fitsLn 2 = true := decide_eq_true (by unfold sizeLine; omega)
theorem ft3 : fitsLn 3 = true := decide_eq_true (by unfold sizeLine; omega)
theorem ft4 : fitsLn 4 = true := decide_eq_true (by unfold sizeLine; omega)
theorem ft5 : fitsLn 5 = true := decide_eq_true (by unfold sizeLine; omega)
theorem ft6 : fitsLn 6 = true := decide_eq_true (by unfold sizeLine; omega)
theorem ft7 : fitsLn 7 = true := decide_eq_true (by unfold sizeLine; omega)
theorem ft8 : fitsLn 8 = true := decide_eq_true (by unfold sizeLine; omega)
theorem ft9 : fitsLn 9 = true := decide_eq_true (by unfold sizeLine; omega)
theorem ft10 : fitsLn 10 = true := decide_eq_true (by unfold sizeLine; omega)
def fstD : D → D
  | .tuple (x :: _) => x
  | d => d
abbrev PT : Ty := .pair .str .int
abbrev MT : Ty := .seq PT
def PairD (U : List D) (p : D) : Prop := ∃ (t : D) (e : Int), p = .tuple [t, .int e] ∧ t ∈ U ∧ 1 ≤ e ∧ e ≤ 3
def MonoD (U : List D) (m : D) : Prop := ∃ ps : List D, m = .tuple ps ∧ ps.length ≤ U.length ∧ (∀ p ∈ ps, PairD U p) ∧ Srt (ps.map fstD)
def PolyD (U : List D) (b : Nat) (p : D) : Prop := ∃ ts : List D, p = .tuple ts ∧ ts.length ≤ b ∧ ∀ t ∈ ts, ∃ (m : D) (c : Int), t = .tuple [m, .int c] ∧ MonoD U m ∧ 1 ≤ c ∧ c ≤ 2000
section
variable {U : List D} (hU : ∀ t ∈ U, isTok t)
include hU
theorem PairD.isT {p : D} (h : PairD U p) : isT PT p = true := by
  obtain ⟨t, e, rfl, ht, _⟩ := h
  exact isT_mk_pair (hU t ht).1 rfl
theorem MonoD.isT {m : D} (h : MonoD U m) : isT MT m = true := by
  obtain ⟨ps, rfl, _, hp, _⟩ := h
  exact isT_mk_seq fun p q => (hp p q).isT hU
omit hU
theorem MonoD.tup {m : D} (h : MonoD U m) : isTup m = true := by
  obtain ⟨ps, rfl, _, hp, _⟩ := h
  rfl
end
theorem nodup_map_inj {f : D → D} : ∀ {l : List D}, (l.map f).Nodup → ∀ {x y : D}, x ∈ l → y ∈ l → f x = f y → x = y
  | [], _, _, _, h, _, _ => by simp at h
  | z :: l, h, x, y, hx, hy, e => by
    rw [List.map_cons, List.nodup_cons] at h
    rcases List.mem_cons.mp hx with hx1 | hx1
    · rcases List.mem_cons.mp hy with hy1 | hy1
      · rw [hx1, hy1]
      · exact absurd (by rw [← hx1, e]; exact List.mem_map_of_mem hy1) h.1
    · rcases List.mem_cons.mp hy with hy1 | hy1
      · exact absurd (by rw [← hy1, ← e]; exact List.mem_map_of_mem hx1) h.1
      · exact nodup_map_inj h.2 hx1 hy1 e
theorem lt_fst {t1 t2 : D} {e1 e2 : Int} (h1 : isT .str t1 = true) (h2 : isT .str t2 = true) (hn : t1 ≠ t2) : PySem.W.dataLt (.tuple [t1, .int e1]) (.tuple [t2, .int e2]) = PySem.W.dataLt t1 t2 := by
  rw [PySem.W.dataLt_pair (isT_alike .str _ _ h1 h2) (isT_alike .int _ _ rfl rfl), if_neg]
  exact fun q => hn ((isT_eqv .str _ _ h1 h2).mp q)
theorem mono_of {U sm out : List D} (hU : ∀ t ∈ U, isTok t) (h1 : ∀ p ∈ sm, PairD U p) (h2 : (sm.map fstD).Nodup) (h3 : Srt out) (h4 : ∀ x, x ∈ out ↔ x ∈ sm) (hl : out.length ≤ U.length) : MonoD U (.tuple out) := by
  refine ⟨out, rfl, hl, fun p hp => h1 p ((h4 p).mp hp), ?_⟩
  rw [Srt, List.pairwise_map]
  refine List.Pairwise.imp_of_mem (fun {p q} hp hq hlt => ?_) h3
  obtain ⟨t1, e1, rfl, u1, _⟩ := h1 p ((h4 p).mp hp)
  obtain ⟨t2, e2, rfl, u2, _⟩ := h1 q ((h4 q).mp hq)
  have hn : t1 ≠ t2 := fun e => by
    have := nodup_map_inj h2 ((h4 _).mp hp) ((h4 _).mp hq) e
    rw [this, lt_irr] at hlt
    exact absurd hlt (by decide)
  rw [lt_fst (hU t1 u1).1 (hU t2 u2).1 hn] at hlt
  exact hlt
def BookOk (U : List D) (k : Nat) (kvs : List (D × D)) : Prop := (∀ p ∈ kvs, MonoD U p.1 ∧ ∃ c : Int, p.2 = .int c ∧ 1 ≤ c ∧ c ≤ 100 * k) ∧ (kvs.map (·.1)).Nodup ∧ kvs.length ≤ k
theorem lt63 {j : Nat} (h : j ≤ 1000) : decide ((j : Int) < (2 ^ 63 : Int)) = true := decide_eq_true (Int.lt_of_le_of_lt (Int.ofNat_le.mpr h) (by decide))
theorem pop1_ok {rest : List D} {j : Nat} (hj : j < rest.length) (hl : rest.length ≤ 1000) : meth .pop1 (.list rest) [.int (j : Int)] = some (rest[j], .list (rest.eraseIdx j)) := by
  have d1 : decide ((0 : Int) ≤ (j : Int)) = true := decide_eq_true (Int.natCast_nonneg j)
  simp only [meth, d1, lt63 (show j ≤ 1000 by omega), Bool.and_self, if_true, Int.toNat_natCast, List.getElem?_eq_getElem hj, Option.map_some]
theorem mm_at {pg : Pg} {C : Orc} {m : Mo} {i : Nat} {as : List X} {ρ ρ1 : Rho} {ds vs : List D} {d r d' : D} (h1 : ρ[i]? = some (some (.list ds))) (h2 : evEs pg C as ρ = .ok vs ρ1) (h3 : ρ1[i]? = some (some d)) (h4 : meth m d vs = some (r, d')) : evE pg C (.mm m i as) ρ = .ok r (ρ1.set i (some d')) := by
  rw [ev_mm]
  simp only [h1, h2, b_ok, h3, h4]
/-! from PW8 -/
def partsD : D → List D
  | .tuple xs => xs
  | _ => []
def toksOf (m : D) : List D := (partsD m).map fstD
def rowOf (t : D) : D := .tuple (toksOf (fstD t))
def partD (a b : D) : Bool := (partsD a).all fun x => hasD (partsD b) x
abbrev RT : Ty := .seq .str
theorem bools_map {f : D → Bool} : ∀ l : List D, boolsOf (l.map fun x => .bool (f x)) = some (l.map f)
  | [] => rfl
  | x :: l => by
    show (boolsOf (l.map fun x => .bool (f x))).map (f x :: ·) = _
    rw [bools_map l]
    rfl
theorem pAll_map {f : D → Bool} {l : List D} : pAll1 [.list (l.map fun x => .bool (f x))] = some (.bool (l.all f)) := by
  show (boolsOf (l.map fun x => .bool (f x))).map (fun bs => PyData.bool (bs.all id)) = _
  rw [bools_map]
  simp [List.all_map, Function.comp_def]
theorem pAny_map {f : D → Bool} {l : List D} : pAny1 [.list (l.map fun x => .bool (f x))] = some (.bool (l.any f)) := by
  show (boolsOf (l.map fun x => .bool (f x))).map (fun bs => PyData.bool (bs.any id)) = _
  rw [bools_map]
  simp [List.any_map, Function.comp_def]
theorem rt_parts {x : D} (h : isT RT x = true) : x = .tuple (partsD x) ∧ ∀ y ∈ partsD x, isT .str y = true := by
  obtain ⟨xs, rfl, q⟩ := isT_seq h
  exact ⟨rfl, q⟩
def keyOf (x : D) : D := .tuple [.int ((partsD x).length : Nat), x]
abbrev KT' : Ty := .pair .int RT
theorem keyOf_T {x : D} (h : isT RT x = true) : isT KT' (keyOf x) = true := isT_mk_pair rfl h
abbrev kLt (a b : D) : Prop := PySem.W.dataLt (keyOf a) (keyOf b) = true
theorem kirr (a : D) : ¬ kLt a a := fun h => by rw [kLt, lt_irr] at h; exact absurd h (by decide)
theorem ktr (a b c : D) (h1 : kLt a b) (h2 : kLt b c) : kLt a c := lt_tr h1 h2
theorem ktot {a b : D} (h1 : isT RT a = true) (h2 : isT RT b = true) (hn : a ≠ b) : kLt a b ∨ kLt b a :=
  lt_tot (keyOf_T h1) (keyOf_T h2) fun e => hn (by injection e with e; injection e with _ e; injection e)
theorem lt_nt {a b c : D} (h1 : PySem.W.dataLt a b = false) (h2 : PySem.W.dataLt b c = false) : PySem.W.dataLt a c = false := by
  cases q : PySem.W.dataLt a c with
  | false => rfl
  | true =>
    rcases PyProof.Rows.lex_negTrans _ (PySem.W.keyToks b) _ q with z | z
    · rw [show PySem.W.dataLt a b = true from z] at h1; exact absurd h1 (by decide)
    · rw [show PySem.W.dataLt b c = true from z] at h2; exact absurd h2 (by decide)
theorem klt_short {a b : D} (h1 : isT RT a = true) (h2 : isT RT b = true) (h : (partsD a).length < (partsD b).length) : kLt a b := by
  show PySem.W.dataLt (.tuple [.int ((partsD a).length : Nat), a]) (.tuple [.int ((partsD b).length : Nat), b]) = true
  rw [PySem.W.dataLt_pair (isT_alike .int _ _ rfl rfl) (isT_alike RT _ _ h1 h2), if_neg, PySem.W.dataLt_int, decide_eq_true_eq]
  · omega
  · intro e
    have := (isT_eqv .int _ _ rfl rfl).mp e
    injection this with this
    omega
theorem klt_same {a b : D} (h1 : isT RT a = true) (h2 : isT RT b = true) (h : (partsD a).length = (partsD b).length) : PySem.W.dataLt (keyOf a) (keyOf b) = PySem.W.dataLt a b := by
  show PySem.W.dataLt (.tuple [.int ((partsD a).length : Nat), a]) (.tuple [.int ((partsD b).length : Nat), b]) = _
  rw [PySem.W.dataLt_pair (isT_alike .int _ _ rfl rfl) (isT_alike RT _ _ h1 h2), h, if_pos ((isT_eqv .int _ _ rfl rfl).mpr rfl)]
  by_cases e : a = b
  · rw [if_pos ((isT_eqv RT _ _ h1 h2).mpr e), e, lt_irr]
  · rw [if_neg fun q => e ((isT_eqv RT _ _ h1 h2).mp q)]
theorem dict_of {rows : List D} (h : ∀ x ∈ rows, isT RT x = true) : ∀ (acc : List (D × D)), (∀ p ∈ acc, isT RT p.1 = true) → (acc.map (·.1)).Nodup → acc.length + rows.length ≤ 1000 →
    ∃ kvs : List (D × D), dictOf (rows.map fun x => .tuple [x, .bool true]) acc = some kvs ∧ (kvs.map (·.1)).Nodup ∧ (∀ x, x ∈ kvs.map (·.1) ↔ x ∈ acc.map (·.1) ∨ x ∈ rows) ∧ kvs.length ≤ acc.length + rows.length := by
  induction rows with
  | nil => exact fun acc _ hn _ => ⟨acc, rfl, hn, by simp, by simp⟩
  | cons x rows ih =>
    intro acc ha hn hl
    have hx := h x (by simp)
    have tup : ∀ {z : D}, isT RT z = true → isTup z = true := fun {z} q => by rw [(rt_parts q).1]; rfl
    have hfit : keyFits x acc = true := keyFits_T hx (by decide) (tup hx) fun p hp => ⟨ha p hp, tup (ha p hp)⟩
    have step : dictOf ((x :: rows).map fun x => .tuple [x, .bool true]) acc = dictOf (rows.map fun x => .tuple [x, .bool true]) (dput x (.bool true) acc) := by
      show (if keyFits x acc && decide (acc.length < sizeLine) then dictOf (rows.map fun x => .tuple [x, .bool true]) (dput x (.bool true) acc) else none) = _
      rw [hfit, decide_eq_true (by simp only [List.length_cons] at hl; unfold sizeLine; omega)]
      rfl
    rw [step]
    by_cases q : x ∈ acc.map (·.1)
    · obtain ⟨f1, f2⟩ := dput_old (v := .bool true) hx ha q
      have fl : (dput x (.bool true) acc).length = acc.length := by
        have := congrArg List.length f1
        rwa [List.length_map, List.length_map] at this
      obtain ⟨kvs, g1, g2, g3, g4⟩ := ih (fun z hz => h z (by simp [hz])) (dput x (.bool true) acc) (fun p hp => by
        rcases f2 p hp with z | z
        · exact ha p z
        · rw [z]; exact hx) (by rw [f1]; exact hn) (by rw [fl]; simp only [List.length_cons] at hl; omega)
      refine ⟨kvs, g1, g2, fun z => ?_, by rw [fl] at g4; simp only [List.length_cons]; omega⟩
      rw [g3, f1, List.mem_cons]
      constructor
      · rintro (a | a)
        · exact .inl a
        · exact .inr (.inr a)
      · rintro (a | a | a)
        · exact .inl a
        · exact .inl (by rw [a]; exact q)
        · exact .inr a
    · rw [dput_new hx ha q]
      obtain ⟨kvs, g1, g2, g3, g4⟩ := ih (fun z hz => h z (by simp [hz])) (acc ++ [(x, .bool true)]) (fun p hp => by
        rcases List.mem_append.mp hp with z | z
        · exact ha p z
        · rw [List.mem_singleton.mp z]; exact hx) (by
        rw [List.map_append, List.nodup_append]
        refine ⟨hn, by simp, fun a hx' b hb e => q ?_⟩
        rw [List.map_cons, List.map_nil, List.mem_singleton] at hb
        rw [e.trans hb] at hx'
        exact hx') (by rw [List.length_append, List.length_singleton]; simp only [List.length_cons] at hl; omega)
      refine ⟨kvs, g1, g2, fun z => ?_, by rw [List.length_append, List.length_singleton] at g4; simp only [List.length_cons]; omega⟩
      rw [g3, List.map_append, List.mem_append, List.mem_cons, List.map_cons, List.map_nil, List.mem_singleton, or_assoc]
theorem dc_pure {pg : Pg} {C : Orc} {ρ ρ1 : Rho} {as : List X} {k e : X} {tg : Tg} {sk : Sk} {vs : List Nat} {os : List O} {ds items : List D} {h : D → D} {kvs : List (D × D)} (h1 : evOs pg C as ρ = .ok os ρ1) (h2 : see ρ1 os = some ds) (h3 : srcOf sk ds = some items)
    (st : ∀ d ∈ items, ∃ r, setTg tg d (wipeR (hide ρ1 (lentOf as)) vs) = some r ∧ wipeR r vs = wipeR (hide ρ1 (lentOf as)) vs ∧ (evE pg C k r).bind (fun x r1 => (evE pg C e r1).bind fun y r2 => .ok (.tuple [x, y]) r2) = .ok (h d) r)
    (hb : unhide ρ1 (lentOf as) (backR ρ1 (wipeR (hide ρ1 (lentOf as)) vs) vs) = ρ1) (hd : dictOf (items.map h) [] = some kvs) :
    evE pg C (.dc k e tg sk as [] vs) ρ = .ok (.dict kvs) ρ1 := by
  obtain ⟨ρ', h5, h6⟩ := compL_pure (fe := fun r => (evE pg C k r).bind fun x r1 => (evE pg C e r1).bind fun y r2 => .ok (.tuple [x, y]) r2) (fi := fun r => evIf pg C [] r) (tg := tg) (vs := vs) (g := fun _ => true) (h := h) items (hide ρ1 (lentOf as)) rfl
    fun d hd => let ⟨r, a, b, c⟩ := st d hd; ⟨r, a, b, ev_if0, fun _ => c⟩
  rw [List.filter_eq_self.mpr fun _ _ => rfl] at h5
  rw [evE, h1, b_ok]
  simp only [h2, h3, h5, hd]
  rw [← back_wipe, h6, hb]
theorem greedy_app {α : Type} {part : α → α → Bool} : ∀ (xs ys f : List α), greedy part f (xs ++ ys) = greedy part (greedy part f xs) ys
  | [], _, _ => rfl
  | x :: xs, ys, f => by
    show (if f.any (fun z => part z x) then greedy part f (xs ++ ys) else greedy part (f ++ [x]) (xs ++ ys)) = greedy part (if f.any (fun z => part z x) then greedy part f xs else greedy part (f ++ [x]) xs) ys
    split
    · exact greedy_app xs ys f
    · exact greedy_app xs ys (f ++ [x])
theorem greedy_mem {α : Type} {part : α → α → Bool} {y : α} : ∀ (xs f : List α), y ∈ greedy part f xs → y ∈ f ∨ y ∈ xs
  | [], _, h => .inl h
  | x :: xs, f, h => by
    have h : y ∈ (if f.any (fun z => part z x) then greedy part f xs else greedy part (f ++ [x]) xs) := h
    split at h
    · rcases greedy_mem xs f h with q | q
      · exact .inl q
      · exact .inr (by simp [q])
    · rcases greedy_mem xs (f ++ [x]) h with q | q
      · rcases List.mem_append.mp q with q | q
        · exact .inl q
        · exact .inr (by simp [List.mem_singleton.mp q])
      · exact .inr (by simp [q])
theorem greedy_len {α : Type} {part : α → α → Bool} : ∀ (xs f : List α), (greedy part f xs).length ≤ f.length + xs.length
  | [], f => by simp [greedy]
  | x :: xs, f => by
    show (if f.any (fun z => part z x) then greedy part f xs else greedy part (f ++ [x]) xs).length ≤ _
    split
    · have := greedy_len (part := part) xs f
      simp only [List.length_cons]; omega
    · have := greedy_len (part := part) xs (f ++ [x])
      simp only [List.length_cons, List.length_append, List.length_nil] at this ⊢; omega
theorem kfit_row {x : D} (h : isT RT x = true) (hl : (partsD x).length ≤ 1000) : kfit x = true := by
  obtain ⟨e, q⟩ := rt_parts h
  rw [e, kfit, Bool.and_eq_true]
  refine ⟨decide_eq_true (by unfold sizeLine; omega), ?_⟩
  generalize partsD x = l at q
  induction l with
  | nil => simp [kfits]
  | cons y l ih =>
    obtain ⟨s, rfl⟩ := isT_str (q y (by simp))
    simp [kfits, kfit, ih fun z hz => q z (by simp [hz])]
theorem keysR_map {f : Rho → R D} {g : D → D} : ∀ {ds : List D}, (∀ d ∈ ds, ∃ ρ, f [some d] = .ok (g d) ρ) → keysR f ds = some (ds.map g)
  | [], _ => rfl
  | d :: ds, h => by
    obtain ⟨ρ, e⟩ := h d (by simp)
    unfold keysR
    rw [e]
    show (keysR f ds).map (g d :: ·) = _
    rw [keysR_map fun z hz => h z (by simp [hz])]
    rfl
theorem sortOk_keys {ds : List D} (h : ∀ d ∈ ds, isT RT d = true) (hl : ds.length ≤ 1000) : sortOk (ds.map keyOf) = true := by
  unfold sortOk
  have hk : ∀ d ∈ ds.map keyOf, isT KT' d = true := fun d hd => by
    obtain ⟨x, hx, rfl⟩ := List.mem_map.mp hd
    exact keyOf_T (h x hx)
  rw [Bool.and_eq_true, Bool.and_eq_true, Bool.and_eq_true]
  refine ⟨⟨⟨?_, ?_⟩, ?_⟩, decide_eq_true (by rw [List.length_map]; unfold sizeLine; omega)⟩
  · exact List.all_eq_true.mpr fun d hd => List.all_eq_true.mpr fun e he => isT_alike KT' d e (hk d hd) (hk e he)
  · unfold sortableB
    rw [Bool.or_eq_true]
    refine .inl (List.all_eq_true.mpr fun d hd => ?_)
    obtain ⟨x, hx, rfl⟩ := List.mem_map.mp hd
    rfl
  · exact List.all_eq_true.mpr fun d hd => decide_eq_true (Nat.le_trans (isT_depth KT' d (hk d hd)) (by decide))
theorem sorted_keys {ds : List D} (h : ∀ d ∈ ds, isT RT d = true) (hn : ds.Nodup) : (((ds.zip (ds.map keyOf)).mergeSort (PySem.W.dataLe false (·.2))).map (·.1)).Pairwise kLt ∧ ∀ x, x ∈ ((ds.zip (ds.map keyOf)).mergeSort (PySem.W.dataLe false (·.2))).map (·.1) ↔ x ∈ ds := by
  have ez : ds.zip (ds.map keyOf) = ds.map fun x => (x, keyOf x) := by
    clear h hn
    induction ds with
    | nil => rfl
    | cons x ds ih => simp [ih]
  rw [ez]
  have hp := List.mergeSort_perm (ds.map fun x => (x, keyOf x)) (PySem.W.dataLe false (·.2))
  have hm : ∀ z ∈ (ds.map fun x => (x, keyOf x)).mergeSort (PySem.W.dataLe false (·.2)), z.1 ∈ ds ∧ z.2 = keyOf z.1 := fun z hz => by
    obtain ⟨x, hx, rfl⟩ := List.mem_map.mp (hp.mem_iff.mp hz)
    exact ⟨hx, rfl⟩
  have hnn : (((ds.map fun x => (x, keyOf x)).mergeSort (PySem.W.dataLe false (·.2))).map (·.1)).Nodup := by
    have := hp.map (·.1)
    rw [List.map_map, show ((fun x : D × D => x.1) ∘ fun x => (x, keyOf x)) = id from rfl, List.map_id] at this
    exact this.nodup_iff.mpr hn
  have hs := List.pairwise_mergeSort (le := PySem.W.dataLe false (fun p : D × D => p.2)) (fun a b c h1 h2 => by
    have h1 : (!PySem.W.dataLt b.2 a.2) = true := h1
    have h2 : (!PySem.W.dataLt c.2 b.2) = true := h2
    show (!PySem.W.dataLt c.2 a.2) = true
    rw [Bool.not_eq_true'] at h1 h2 ⊢
    exact lt_nt h2 h1) (fun a b => by
    show ((!PySem.W.dataLt b.2 a.2) || (!PySem.W.dataLt a.2 b.2)) = true
    cases q : PySem.W.dataLt b.2 a.2 with
    | false => rfl
    | true => rw [lt_as q]; rfl) (ds.map fun x => (x, keyOf x))
  refine ⟨?_, fun x => ?_⟩
  · rw [List.pairwise_map]
    rw [List.Nodup, List.pairwise_map] at hnn
    refine List.Pairwise.imp_of_mem (fun {a b} ha hb q => ?_) (hs.and hnn)
    obtain ⟨q1, q2⟩ := q
    have q1 : (!PySem.W.dataLt b.2 a.2) = true := q1
    rw [Bool.not_eq_true', (hm a ha).2, (hm b hb).2] at q1
    rcases ktot (h _ (hm a ha).1) (h _ (hm b hb).1) q2 with z | z
    · exact z
    · rw [kLt] at z
      rw [z] at q1
      exact absurd q1 (by decide)
  · rw [List.mem_map]
    constructor
    · rintro ⟨z, hz, rfl⟩
      exact (hm z hz).1
    · intro hx
      exact ⟨(x, keyOf x), hp.mem_iff.mpr (List.mem_map.mpr ⟨x, hx, rfl⟩), rfl⟩
/-! from PW9 -/
def TermsD (U ts : List D) : Prop := ∀ t ∈ ts, ∃ (m : D) (c : Int), t = .tuple [m, .int c] ∧ MonoD U m
def thereD (ts : List D) (y : D) : Bool := ts.any fun t => partD (rowOf t) y
theorem filter_none {ys : List D} {l : List D} : decide ((((l.filter fun x => !hasD ys (fstD x)).length : Nat) : Int) = 0) = (l.map fstD).all fun x => hasD ys x := by
  rw [Bool.eq_iff_iff, decide_eq_true_eq, List.all_eq_true]
  constructor
  · intro h x hx
    obtain ⟨p, hp, rfl⟩ := List.mem_map.mp hx
    have h : (l.filter fun x => !hasD ys (fstD x)) = [] := List.length_eq_zero_iff.mp (by omega)
    have := List.filter_eq_nil_iff.mp h p hp
    simpa using this
  · intro h
    have : (l.filter fun x => !hasD ys (fstD x)) = [] := List.filter_eq_nil_iff.mpr fun x hx => by simp [h (fstD x) (List.mem_map_of_mem hx)]
    rw [this]
    rfl
theorem flat_len {f : D → List D} {b : Nat} : ∀ {l : List D}, (∀ x ∈ l, (f x).length ≤ b) → (l.flatMap f).length ≤ l.length * b
  | [], _ => by simp
  | x :: l, h => by
    have := flat_len (l := l) fun z hz => h z (by simp [hz])
    have := h x (by simp)
    rw [List.flatMap_cons, List.length_append, List.length_cons, Nat.succ_mul]
    omega
theorem toks_len {U ts : List D} (h : TermsD U ts) {t : D} (ht : t ∈ ts) : (toksOf (fstD t)).length ≤ U.length := by
  obtain ⟨m, c, rfl, ps, rfl, p1, p2, p3⟩ := h t ht
  show (ps.map fstD).length ≤ _
  rw [List.length_map]
  exact p1
theorem toks_in {U ts : List D} (h : TermsD U ts) {t x : D} (ht : t ∈ ts) (hx : x ∈ toksOf (fstD t)) : x ∈ U := by
  obtain ⟨m, c, rfl, ps, rfl, p1, p2, p3⟩ := h t ht
  obtain ⟨p, hp, rfl⟩ := List.mem_map.mp (show x ∈ ps.map fstD from hx)
  obtain ⟨y, e, rfl, hy, _⟩ := p2 p hp
  exact hy
theorem toks_srt {U ts : List D} (h : TermsD U ts) {t : D} (ht : t ∈ ts) : Srt (toksOf (fstD t)) := by
  obtain ⟨m, c, rfl, ps, rfl, p1, p2, p3⟩ := h t ht
  exact p3
theorem row_T {U ts : List D} (hU : ∀ t ∈ U, isTok t) (h : TermsD U ts) {t : D} (ht : t ∈ ts) : isT RT (rowOf t) = true := isT_mk_seq fun x hx => (hU x (toks_in h ht hx)).1
theorem none_len {f : D → Bool} {l : List D} : decide ((((l.filter f).length : Nat) : Int) = 0) = !l.any f := by
  cases q : l.any f with
  | true =>
    obtain ⟨x, hx, h⟩ := List.any_eq_true.mp q
    refine decide_eq_false fun e => ?_
    have : l.filter f = [] := List.length_eq_zero_iff.mp (by omega)
    have := List.filter_eq_nil_iff.mp this x hx
    exact this h
  | false =>
    refine decide_eq_true ?_
    have : l.filter f = [] := List.filter_eq_nil_iff.mpr fun x hx h => by
      have := List.any_eq_true.mpr ⟨x, hx, h⟩
      rw [q] at this
      exact absurd this (by decide)
    rw [this]
    rfl
theorem pw_nodup {S : List D} (h : S.Pairwise kLt) : S.Nodup := List.Pairwise.imp (fun {a b} hlt e => by rw [e] at hlt; exact kirr b hlt) h
theorem hasD_self {xs : List D} {x : D} (h : ∀ y ∈ xs, isT .str y = true) (hx : x ∈ xs) : hasD xs x = true := (hasD_iff (h x hx) h).mpr hx
theorem part_iff {a b : D} (ha : isT RT a = true) (hb : isT RT b = true) : partD a b = true ↔ ∀ x ∈ partsD a, x ∈ partsD b := by
  unfold partD
  rw [List.all_eq_true]
  exact ⟨fun h x hx => (hasD_iff ((rt_parts ha).2 x hx) (rt_parts hb).2).mp (h x hx), fun h x hx => (hasD_iff ((rt_parts ha).2 x hx) (rt_parts hb).2).mpr (h x hx)⟩
theorem tok_atom {U : List D} (hU : ∀ t ∈ U, isTok t) {x : D} (h : x ∈ U) : atomOk x = true := (hU x h).2
theorem int_atom {e : Int} (h0 : 0 ≤ e) (h1 : e ≤ 3000) : atomOk (.int e) = true := by
  show (decide (0 ≤ e) && decide (e < 1000000000)) = true
  rw [decide_eq_true h0, decide_eq_true (show e < 1000000000 by omega)]
  rfl
theorem poly_TN {U : List D} (hU : ∀ t ∈ U, isTok t) {b m : Nat} {p : D} (h : PolyD U b p) (h1 : b ≤ m) (h2 : U.length ≤ m) (h3 : 2 ≤ m) : TN m 4 p := by
  obtain ⟨ts, rfl, l, ht⟩ := h
  refine .inr ⟨ts, rfl, by omega, fun t hx => ?_⟩
  obtain ⟨mo, c, rfl, ⟨ps, rfl, pl, pp, _⟩, c1, c2⟩ := ht t hx
  refine .inr ⟨_, rfl, h3, fun x hx => ?_⟩
  rcases List.mem_cons.mp hx with rfl | hx
  · refine .inr ⟨ps, rfl, by omega, fun q hq => ?_⟩
    obtain ⟨x, e, rfl, hx, e1, e2⟩ := pp q hq
    refine .inr ⟨_, rfl, h3, fun y hy => ?_⟩
    rcases List.mem_cons.mp hy with rfl | hy
    · exact tok_atom hU hx
    · rw [List.mem_singleton.mp hy]; exact int_atom (by omega) (by omega)
  · rw [List.mem_singleton.mp hx]
    exact .inl (int_atom (by omega) (by omega))
theorem poly_terms {U : List D} {b : Nat} {p : D} (h : PolyD U b p) : ∃ ts, p = .tuple ts ∧ ts.length ≤ b ∧ TermsD U ts := by
  obtain ⟨ts, e, l, ht⟩ := h
  exact ⟨ts, e, l, fun t hx => let ⟨m, c, e, h, _⟩ := ht t hx; ⟨m, c, e, h⟩⟩
theorem wit_TN {U ts srt : List D} (hU : ∀ t ∈ U, isTok t) (hUl : U.length ≤ 20) (hl : ts.length ≤ 20) (h : TermsD U ts) (s1 : srt.Pairwise kLt) (s2 : ∀ x, x ∈ srt ↔ x ∈ ts.map rowOf) : TN 20 2 (.tuple (greedy partD [] srt)) := by
  have hsl : srt.length ≤ 20 := Nat.le_trans (nodup_len (pw_nodup s1) fun x hx => (s2 x).mp hx) (by rw [List.length_map]; exact hl)
  refine .inr ⟨_, rfl, ?_, fun x hx => ?_⟩
  · have := greedy_len (part := partD) srt []
    simp only [List.length_nil] at this
    omega
  · rcases greedy_mem srt [] hx with q | q
    · simp at q
    · obtain ⟨t, ht, rfl⟩ := List.mem_map.mp ((s2 x).mp q)
      refine .inr ⟨_, rfl, Nat.le_trans (toks_len h ht) hUl, fun y hy => tok_atom hU (toks_in h ht hy)⟩
theorem okN_seq {m k : Nat} {r : D} {ts : List D} (h : OkN m k r) (e : fz k r = .tuple ts) : isSeqD r = true := by
  cases r with
  | list _ => rfl
  | tuple _ => rfl
  | _ => cases k <;> cases e
theorem pNe_str {s : Str} : pNe [.str s, .str s] = some (.bool false) := by
  show (if cmpOk (.str s) (.str s) then some (PyData.bool (!PyData.eqv (.str s) (.str s))) else none) = _
  rw [if_pos (isT_cmp (t := .str) rfl rfl (by decide)), (isT_eqv .str (.str s) (.str s) rfl rfl).mpr rfl]
  rfl
end PV

set_option maxHeartbeats 4000000
namespace PV
open PySem
/-! ### plain facts for every law: dicts of texts, sorted texts, data that may hold lists for tuples -/
theorem isT_alike_all {t : Ty} {ds : List D} (h : ∀ d ∈ ds, isT t d = true) : alikeAlls ds = true := List.all_eq_true.mpr fun d hd => List.all_eq_true.mpr fun e he => isT_alike t d e (h d hd) (h e he)
/-- the set of the keys of a row of pairs -/
theorem dict_keys : ∀ (xs : List D) (acc : List (D × D)), (∀ x ∈ xs, isT .str x = true) → (∀ p ∈ acc, isT .str p.1 = true) → (acc.map (·.1)).Nodup → acc.length + xs.length ≤ 100000 →
    ∃ kvs : List (D × D), dictOf (xs.map fun x => .tuple [x, .bool true]) acc = some kvs ∧ (kvs.map (·.1)).Nodup ∧ (∀ x, x ∈ kvs.map (·.1) ↔ x ∈ acc.map (·.1) ∨ x ∈ xs) ∧ kvs.length ≤ acc.length + xs.length
  | [], acc, _, _, hn, _ => ⟨acc, rfl, hn, by simp, by simp⟩
  | x :: xs, acc, h, ha, hn, hl => by
    have hx := h x (by simp)
    have kd : ∀ {z : D}, isT .str z = true → keyKd z = 1 := fun {z} q => by obtain ⟨s, rfl⟩ := isT_str q; rfl
    have hfit : keyFits x acc = true := by
      cases acc with
      | nil => show (keyKd x != 0) = true; rw [kd hx]; rfl
      | cons p r =>
        show (keyKd x != 0 && keyKd p.1 == keyKd x) = true
        rw [kd hx, kd (ha p (by simp))]
        rfl
    have step : dictOf ((x :: xs).map fun x => .tuple [x, .bool true]) acc = dictOf (xs.map fun x => .tuple [x, .bool true]) (dput x (.bool true) acc) := by
      show (if keyFits x acc && decide (acc.length < sizeLine) then dictOf (xs.map fun x => .tuple [x, .bool true]) (dput x (.bool true) acc) else none) = _
      rw [hfit, decide_eq_true (by simp only [List.length_cons] at hl; unfold sizeLine; omega)]
      rfl
    rw [step]
    by_cases q : x ∈ acc.map (·.1)
    · obtain ⟨f1, f2⟩ := dput_old (v := .bool true) hx ha q
      have fl : (dput x (.bool true) acc).length = acc.length := by
        have := congrArg List.length f1
        rwa [List.length_map, List.length_map] at this
      obtain ⟨kvs, g1, g2, g3, g4⟩ := dict_keys xs (dput x (.bool true) acc) (fun z hz => h z (by simp [hz])) (fun p hp => by
        rcases f2 p hp with z | z
        · exact ha p z
        · rw [z]; exact hx) (by rw [f1]; exact hn) (by rw [fl]; simp only [List.length_cons] at hl; omega)
      refine ⟨kvs, g1, g2, fun z => ?_, by rw [fl] at g4; simp only [List.length_cons]; omega⟩
      rw [g3, f1, List.mem_cons]
      constructor
      · rintro (a | a)
        · exact .inl a
        · exact .inr (.inr a)
      · rintro (a | a | a)
        · exact .inl a
        · exact .inl (by rw [a]; exact q)
        · exact .inr a
    · rw [dput_new hx ha q]
      obtain ⟨kvs, g1, g2, g3, g4⟩ := dict_keys xs (acc ++ [(x, .bool true)]) (fun z hz => h z (by simp [hz])) (fun p hp => by
        rcases List.mem_append.mp hp with z | z
        · exact ha p z
        · rw [List.mem_singleton.mp z]; exact hx) (by
        rw [List.map_append, List.nodup_append]
        refine ⟨hn, by simp, fun a hx' b hb e => q ?_⟩
        rw [List.map_cons, List.map_nil, List.mem_singleton] at hb
        rw [e.trans hb] at hx'
        exact hx') (by rw [List.length_append, List.length_singleton]; simp only [List.length_cons] at hl; omega)
      refine ⟨kvs, g1, g2, fun z => ?_, by rw [List.length_append, List.length_singleton] at g4; simp only [List.length_cons]; omega⟩
      rw [g3, List.map_append, List.mem_append, List.mem_cons, List.map_cons, List.map_nil, List.mem_singleton, or_assoc]
theorem compL2_pure {fe : Rho → R D} {fs : Rho → R (List D)} {tg tg2 : Tg} {vs us : List Nat} {ρ0 : Rho} {its : D → List D} {h : D → D → D} (huv : ∀ i ∈ us, i ∈ vs) : ∀ (items : List D) (ρ : Rho), wipeR ρ vs = ρ0 →
    (∀ d ∈ items, ∃ ρ1, setTg tg d ρ0 = some ρ1 ∧ wipeR ρ1 vs = ρ0 ∧ fs ρ1 = .ok (its d) ρ1 ∧ ∀ e ∈ its d, ∃ ρ2, setTg tg2 e (wipeR ρ1 us) = some ρ2 ∧ wipeR ρ2 us = wipeR ρ1 us ∧ fe ρ2 = .ok (h d e) ρ2) →
    ∃ ρ', compL2 fe fs tg tg2 vs us items ρ = .ok (items.flatMap fun d => (its d).map (h d)) ρ' ∧ wipeR ρ' vs = ρ0
  | [], ρ, e, _ => ⟨ρ, rfl, e⟩
  | d :: ds, ρ, e, st => by
    obtain ⟨ρ1, h1, h0, h2, h3⟩ := st d (by simp)
    obtain ⟨ρ2, h4, h5⟩ := compL_pure (fe := fe) (fi := fun r => R.ok true r) (tg := tg2) (vs := us) (g := fun _ => true) (h := h d) (its d) ρ1 rfl fun x hx => by
      obtain ⟨ρ3, a, b, c⟩ := h3 x hx
      exact ⟨ρ3, a, b, rfl, fun _ => c⟩
    rw [List.filter_eq_self.mpr fun _ _ => rfl] at h4
    obtain ⟨ρ', h6, h7⟩ := compL2_pure huv ds ρ2 (by rw [← wipeR_sub huv, h5, wipeR_sub huv]; exact h0) (fun x hx => st x (by simp [hx]))
    refine ⟨ρ', ?_, h7⟩
    simp only [compL2, e, h1, h2, b_ok, h4, h6, List.flatMap_cons]
theorem sort1_str {ks out : List D} (kT : ∀ x ∈ ks, isT .str x = true) (kn : ks.Nodup) (kl : ks.length ≤ 100000) (r2 : Srt out) (r3 : ∀ x, x ∈ out ↔ x ∈ ks) : pSort1 [.list ks] = some (.list out) := by
  have so : sortOk ks = true := by
    unfold sortOk
    rw [Bool.and_eq_true, Bool.and_eq_true, Bool.and_eq_true]
    refine ⟨⟨⟨isT_alike_all kT, ?_⟩, List.all_eq_true.mpr fun d hd => decide_eq_true (Nat.le_trans (isT_depth .str d (kT d hd)) (by decide))⟩, decide_eq_true (by unfold sizeLine; omega)⟩
    unfold sortableB
    rw [Bool.or_eq_true]
    refine .inr (List.all_eq_true.mpr fun d hd => ?_)
    obtain ⟨s, e⟩ := isT_str (kT d hd)
    rw [e]
  show (if sortOk ks then some (PyData.list (sortD ks)) else none) = _
  rw [so]
  have : sortD ks = out := by
    unfold sortD
    have hp := List.mergeSort_perm ks (PySem.W.dataLe false id)
    have hs := List.pairwise_mergeSort (le := PySem.W.dataLe false (id : D → D)) (fun a b c h1 h2 => by
      have h1 : (!PySem.W.dataLt b a) = true := h1
      have h2 : (!PySem.W.dataLt c b) = true := h2
      show (!PySem.W.dataLt c a) = true
      rw [Bool.not_eq_true'] at h1 h2 ⊢
      exact lt_nt h2 h1) (fun a b => by
      show ((!PySem.W.dataLt b a) || (!PySem.W.dataLt a b)) = true
      cases q : PySem.W.dataLt b a with
      | false => rfl
      | true => rw [lt_as q]; rfl) ks
    refine Srt.ext (List.Pairwise.imp_of_mem (fun {a b} ha hb q => ?_) (hs.and (hp.nodup_iff.mpr kn))) r2 fun x => ?_
    · obtain ⟨q1, q2⟩ := q
      have q1 : (!PySem.W.dataLt b a) = true := q1
      rw [Bool.not_eq_true'] at q1
      rcases lt_tot (kT a (hp.mem_iff.mp ha)) (kT b (hp.mem_iff.mp hb)) q2 with z | z
      · exact z
      · rw [z] at q1; exact absurd q1 (by decide)
    · rw [hp.mem_iff, r3]
  rw [this]
  rfl
/-- a dict of unlike texts with values by a function -/
theorem dict_gen {f : D → D} : ∀ (xs pre : List D), (∀ x ∈ pre ++ xs, isT .str x = true) → (pre ++ xs).Nodup → (pre ++ xs).length ≤ 1000 →
    dictOf (xs.map fun x => .tuple [x, f x]) (pre.map fun x => (x, f x)) = some ((pre ++ xs).map fun x => (x, f x))
  | [], pre, _, _, _ => by rw [List.append_nil]; rfl
  | x :: xs, pre, h, hn, hl => by
    have hx := h x (by simp)
    have kd : ∀ {z : D}, isT .str z = true → keyKd z = 1 := fun {z} q => by obtain ⟨s, rfl⟩ := isT_str q; rfl
    have hk : ∀ p ∈ pre.map (fun x => (x, f x)), isT .str p.1 = true := fun p hp => by
      obtain ⟨y, hy, rfl⟩ := List.mem_map.mp hp
      exact h y (by simp [hy])
    have hfit : keyFits x (pre.map fun x => (x, f x)) = true := by
      cases hp : pre.map fun x => (x, f x) with
      | nil => show (keyKd x != 0) = true; rw [kd hx]; rfl
      | cons p r =>
        show (keyKd x != 0 && keyKd p.1 == keyKd x) = true
        rw [kd hx, kd (hk p (by rw [hp]; simp))]
        rfl
    have hnot : x ∉ (pre.map fun x => (x, f x)).map (·.1) := by
      rw [List.map_map]
      intro q
      obtain ⟨y, hy, e⟩ := List.mem_map.mp q
      have e : y = x := e
      rw [List.nodup_append] at hn
      exact hn.2.2 y hy x (by simp) e
    have step : dictOf ((x :: xs).map fun x => .tuple [x, f x]) (pre.map fun x => (x, f x)) = dictOf (xs.map fun x => .tuple [x, f x]) (dput x (f x) (pre.map fun x => (x, f x))) := by
      show (if keyFits x (pre.map fun x => (x, f x)) && decide ((pre.map fun x => (x, f x)).length < sizeLine) then dictOf (xs.map fun x => .tuple [x, f x]) (dput x (f x) (pre.map fun x => (x, f x))) else none) = _
      rw [hfit, decide_eq_true (by rw [List.length_map]; simp only [List.length_append] at hl; unfold sizeLine; omega)]
      rfl
    rw [step, dput_new hx hk hnot]
    have e : (pre.map fun x => (x, f x)) ++ [(x, f x)] = (pre ++ [x]).map fun x => (x, f x) := by rw [List.map_append]; rfl
    rw [e, dict_gen xs (pre ++ [x]) (by simpa using h) (by simpa using hn) (by simpa using hl)]
    simp
/-- what stands at a text in such a dict -/
theorem tfits {f : D → D} {xs : List D} (h : ∀ x ∈ xs, isT .str x = true) {x : D} (hx : isT .str x = true) : keyFits x (xs.map fun x => (x, f x)) = true := by
  have kd : ∀ {z : D}, isT .str z = true → keyKd z = 1 := fun {z} q => by obtain ⟨s, rfl⟩ := isT_str q; rfl
  cases xs with
  | nil => show (keyKd x != 0) = true; rw [kd hx]; rfl
  | cons p r =>
    show (keyKd x != 0 && keyKd p == keyKd x) = true
    rw [kd hx, kd (h p (by simp))]
    rfl
theorem tlook {f : D → D} {xs : List D} (h : ∀ x ∈ xs, isT .str x = true) {x : D} (hx : x ∈ xs) : dlook x (xs.map fun x => (x, f x)) = some (f x) := by
  have hk : ∀ p ∈ xs.map (fun x => (x, f x)), isT .str p.1 = true := fun p hp => by
    obtain ⟨y, hy, rfl⟩ := List.mem_map.mp hp
    exact h y hy
  obtain ⟨p, p1, p2, p3⟩ := dlook_some (h x hx) hk (by rw [List.map_map]; exact List.mem_map.mpr ⟨x, hx, rfl⟩)
  obtain ⟨y, hy, rfl⟩ := List.mem_map.mp p1
  have p2 : y = x := p2
  rw [p3, p2]
theorem tidx {f : D → D} {xs : List D} (h : ∀ x ∈ xs, isT .str x = true) {x : D} (hx : x ∈ xs) : pIdx [.dict (xs.map fun x => (x, f x)), x] = some (f x) := by
  show (if keyFits x (xs.map fun x => (x, f x)) then dlook x (xs.map fun x => (x, f x)) else none) = _
  rw [tfits h (h x hx), tlook h hx]
  rfl
theorem tnotin {f : D → D} {xs : List D} (h : ∀ x ∈ xs, isT .str x = true) {x : D} (hx : x ∈ xs) : pNotin [x, .dict (xs.map fun x => (x, f x))] = some (.bool false) := by
  show (if keyFits x (xs.map fun x => (x, f x)) then some (PyData.bool (!(dlook x (xs.map fun x => (x, f x))).isSome)) else none) = _
  rw [tfits h (h x hx), tlook h hx]
  rfl
theorem tput {f : D → D} {xs : List D} (h : ∀ x ∈ xs, isT .str x = true) (hl : xs.length ≤ 1000) {x v : D} (hx : isT .str x = true) (hn : x ∉ xs) : putAt (.dict (xs.map fun x => (x, f x))) x v = some (.dict ((xs.map fun x => (x, f x)) ++ [(x, v)])) := by
  have hk : ∀ p ∈ xs.map (fun x => (x, f x)), isT .str p.1 = true := fun p hp => by
    obtain ⟨y, hy, rfl⟩ := List.mem_map.mp hp
    exact h y hy
  show (if keyFits x (xs.map fun x => (x, f x)) && decide ((xs.map fun x => (x, f x)).length < sizeLine) then some (PyData.dict (dput x v (xs.map fun x => (x, f x)))) else none) = _
  rw [tfits h hx, decide_eq_true (by rw [List.length_map]; unfold sizeLine; omega), dput_new hx hk (by
    rw [List.map_map]
    intro q
    obtain ⟨y, hy, e⟩ := List.mem_map.mp q
    have e : y = x := e
    exact hn (e ▸ hy))]
  rfl
/-! ### lists for tuples -/
theorem raw_seq {m k : Nat} {r : D} {xs : List D} (h : OkN m (k + 1) r) (e : fz (k + 1) r = .tuple xs) : ∃ rs, (r = .list rs ∨ r = .tuple rs) ∧ rs.length ≤ m ∧ rs.map (fz k) = xs ∧ ∀ z ∈ rs, OkN m k z := by
  rcases h with h | ⟨rs, er, l, h⟩
  · rw [fz_atom h] at e
    rw [e] at h
    cases h
  · refine ⟨rs, er, l, ?_, h⟩
    rcases er with rfl | rfl
    · have e : PyData.tuple (rs.map (fz k)) = .tuple xs := e
      injection e
    · have e : PyData.tuple (rs.map (fz k)) = .tuple xs := e
      injection e
theorem raw_atom {m k : Nat} {r x : D} (h : OkN m k r) (e : fz k r = x) (hx : atomOk x = true) : r = x := by
  cases k with
  | zero => exact e
  | succ k =>
    rcases h with h | ⟨rs, er, l, h⟩
    · rw [← e, fz_atom h]
    · rcases er with rfl | rfl
      · have e : PyData.tuple (rs.map (fz k)) = x := e
        rw [← e] at hx
        cases hx
      · have e : PyData.tuple (rs.map (fz k)) = x := e
        rw [← e] at hx
        cases hx
theorem raw_pair {m k : Nat} {r a b : D} (h : OkN m (k + 1) r) (e : fz (k + 1) r = .tuple [a, b]) : ∃ x y, (r = .list [x, y] ∨ r = .tuple [x, y]) ∧ (OkN m k x ∧ fz k x = a) ∧ OkN m k y ∧ fz k y = b := by
  obtain ⟨rs, er, _, em, hz⟩ := raw_seq h e
  match rs, em, hz, er with
  | [x, y], em, hz, er =>
    have em : [fz k x, fz k y] = [a, b] := em
    injection em with e1 em
    injection em with e2 em
    exact ⟨x, y, er, ⟨hz x (by simp), e1⟩, hz y (by simp), e2⟩
  | [], em, _, _ => cases em
  | [_], em, _, _ => injection em with e1 em; cases em
  | _ :: _ :: _ :: _, em, _, _ => injection em with e1 em; injection em with e2 em; cases em
def partsR : D → List D
  | .tuple ds => ds
  | .list ds => ds
  | _ => []
def fstR : D → D
  | .tuple (x :: _) => x
  | .list (x :: _) => x
  | d => d
def rtoks (z : D) : List D := (partsR (fstR z)).map fstR
end PV

set_option maxHeartbeats 4000000
namespace PV
open PySem
/-! ### plain facts for every law: formal sums (keys with numbers), books that add them up, their normal form -/
def lin (f : D → Int) (l : List (D × Int)) : Int := (l.map fun p => p.2 * f p.1).sum
theorem lin_nil {f : D → Int} : lin f [] = 0 := rfl
theorem lin_cons {f : D → Int} {p : D × Int} {l : List (D × Int)} : lin f (p :: l) = p.2 * f p.1 + lin f l := by simp [lin]
theorem lin_app {f : D → Int} {a b : List (D × Int)} : lin f (a ++ b) = lin f a + lin f b := by simp [lin]
theorem lin_perm {f : D → Int} {a b : List (D × Int)} (h : a.Perm b) : lin f a = lin f b := by
  unfold lin
  induction h with
  | nil => rfl
  | cons x _ ih => simp only [List.map_cons, List.sum_cons, ih]
  | swap x y l => simp only [List.map_cons, List.sum_cons]; omega
  | trans _ _ i1 i2 => rw [i1, i2]
theorem lin_congr {f g : D → Int} : ∀ {l : List (D × Int)}, (∀ p ∈ l, f p.1 = g p.1) → lin f l = lin g l
  | [], _ => rfl
  | p :: l, h => by rw [lin_cons, lin_cons, h p (by simp), lin_congr fun q hq => h q (by simp [hq])]
theorem lin_zero {l : List (D × Int)} : lin (fun _ => 0) l = 0 := by
  induction l with
  | nil => rfl
  | cons p l ih => rw [lin_cons, ih]; omega
theorem lin_add2 {f g : D → Int} {l : List (D × Int)} : lin (fun x => f x + g x) l = lin f l + lin g l := by
  induction l with
  | nil => rfl
  | cons p l ih => rw [lin_cons, lin_cons, lin_cons, ih, Int.mul_add]; omega
theorem lin_mul {f : D → Int} {c : Int} {l : List (D × Int)} : lin (fun x => c * f x) l = c * lin f l := by
  induction l with
  | nil => rw [lin_nil, lin_nil, Int.mul_zero]
  | cons p l ih => rw [lin_cons, lin_cons, ih, Int.mul_add, ← Int.mul_assoc, ← Int.mul_assoc, Int.mul_comm p.2 c]
theorem lin_swap {F : D → D → Int} {p q : List (D × Int)} : lin (fun a => lin (fun b => F a b) q) p = lin (fun b => lin (fun a => F a b) p) q := by
  induction p with
  | nil => rw [lin_nil]; exact lin_zero.symm
  | cons x p ih =>
    rw [lin_cons, ih, ← lin_mul, ← lin_add2]
    refine lin_congr fun z _ => ?_
    rw [lin_cons]
section
open Classical
noncomputable def getL (k : D) : List (D × Int) → Option Int
  | [] => none
  | p :: r => if p.1 = k then some p.2 else getL k r
noncomputable def putL (k : D) (v : Int) : List (D × Int) → List (D × Int)
  | [] => [(k, v)]
  | p :: r => if p.1 = k then (p.1, v) :: r else p :: putL k v r
noncomputable def addL (k : D) (c : Int) (l : List (D × Int)) : List (D × Int) := putL k ((getL k l).getD 0 + c) l
noncomputable def indD (k : D) (x : D) : Int := if x = k then 1 else 0
theorem lin_put {f : D → Int} {k : D} {v : Int} : ∀ {l : List (D × Int)}, lin f (putL k v l) = lin f l + (v - (getL k l).getD 0) * f k
  | [] => by
    show v * f k + 0 = 0 + (v - 0) * f k
    rw [Int.sub_zero]; omega
  | p :: l => by
    unfold putL getL
    by_cases h : p.1 = k
    · rw [if_pos h, if_pos h, lin_cons, lin_cons, h]
      show v * f k + _ = _ + (v - p.2) * f k
      rw [Int.sub_mul]; omega
    · rw [if_neg h, if_neg h, lin_cons, lin_cons, lin_put]; omega
theorem lin_addL {f : D → Int} {k : D} {c : Int} {l : List (D × Int)} : lin f (addL k c l) = lin f l + c * f k := by
  unfold addL
  rw [lin_put, show (getL k l).getD 0 + c - (getL k l).getD 0 = c by omega]
theorem put_keys {k : D} {v : Int} : ∀ {l : List (D × Int)}, (∀ x, x ∈ (putL k v l).map (·.1) ↔ x ∈ l.map (·.1) ∨ x = k) ∧ ((l.map (·.1)).Nodup → ((putL k v l).map (·.1)).Nodup) ∧ (putL k v l).length ≤ l.length + 1 ∧ l.length ≤ (putL k v l).length ∧ ∀ p ∈ putL k v l, p ∈ l ∨ p = (k, v)
  | [] => by simp [putL]
  | p :: l => by
    obtain ⟨h1, h2, h3, h4, h5⟩ := put_keys (k := k) (v := v) (l := l)
    unfold putL
    by_cases h : p.1 = k
    · rw [if_pos h]
      refine ⟨fun x => ?_, fun n => n, by simp, by simp, fun q hq => ?_⟩
      · simp only [List.map_cons, List.mem_cons]
        constructor
        · exact .inl
        · rintro (z | z)
          · exact z
          · exact .inl (by rw [z, h])
      · rcases List.mem_cons.mp hq with z | z
        · exact .inr (by rw [z, h])
        · exact .inl (by simp [z])
    · rw [if_neg h]
      refine ⟨fun x => ?_, fun n => ?_, by simp only [List.length_cons]; omega, by simp only [List.length_cons]; omega, fun q hq => ?_⟩
      · simp only [List.map_cons, List.mem_cons, h1, or_assoc]
      · rw [List.map_cons, List.nodup_cons] at n ⊢
        refine ⟨fun z => ?_, h2 n.2⟩
        rcases (h1 _).mp z with z | z
        · exact n.1 z
        · exact h z
      · rcases List.mem_cons.mp hq with z | z
        · exact .inl (by simp [z])
        · rcases h5 q z with y | y
          · exact .inl (by simp [y])
          · exact .inr y
theorem get_mem {k : D} {c : Int} : ∀ {l : List (D × Int)}, getL k l = some c → (k, c) ∈ l
  | [], h => by cases h
  | p :: l, h => by
    unfold getL at h
    by_cases q : p.1 = k
    · rw [if_pos q] at h
      have : p = (k, c) := Prod.ext q (Option.some.inj h)
      rw [this]; simp
    · rw [if_neg q] at h
      exact List.mem_cons_of_mem _ (get_mem h)
theorem get_of {k : D} {c : Int} : ∀ {l : List (D × Int)}, (l.map (·.1)).Nodup → (k, c) ∈ l → getL k l = some c
  | [], _, h => by simp at h
  | p :: l, n, h => by
    rw [List.map_cons, List.nodup_cons] at n
    unfold getL
    rcases List.mem_cons.mp h with z | z
    · rw [← z, if_pos rfl]
    · have : p.1 ≠ k := fun e => n.1 (List.mem_map.mpr ⟨(k, c), z, e.symm⟩)
      rw [if_neg this]
      exact get_of n.2 z
theorem lin_ind {k : D} {c : Int} : ∀ {l : List (D × Int)}, (l.map (·.1)).Nodup → (k, c) ∈ l → lin (indD k) l = c
  | [], _, h => by simp at h
  | p :: l, n, h => by
    rw [List.map_cons, List.nodup_cons] at n
    rw [lin_cons]
    rcases List.mem_cons.mp h with z | z
    · have : lin (indD k) l = 0 := by
        rw [lin_congr (g := fun _ => 0) fun q hq => ?_]
        · exact lin_zero
        · unfold indD
          rw [if_neg fun e => n.1 (List.mem_map.mpr ⟨q, hq, by rw [e, ← z]⟩)]
      rw [this, ← z]
      unfold indD
      rw [if_pos rfl]; omega
    · rw [lin_ind n.2 z]
      have : p.1 ≠ k := fun e => n.1 (List.mem_map.mpr ⟨(k, c), z, e.symm⟩)
      unfold indD
      rw [if_neg this]; omega
theorem lin_out {k : D} {l : List (D × Int)} (h : k ∉ l.map (·.1)) : lin (indD k) l = 0 := by
  rw [lin_congr (g := fun _ => 0) fun q hq => ?_]
  · exact lin_zero
  · unfold indD
    rw [if_neg fun e => h (List.mem_map.mpr ⟨q, hq, e⟩)]
end
/-- rising keys, each with a number of at least one -/
structure Can (l : List (D × Int)) : Prop where
  srt : Srt (l.map (·.1))
  pos : ∀ p ∈ l, 1 ≤ p.2
theorem srt_nodup {l : List D} (h : Srt l) : l.Nodup := List.Pairwise.imp (fun {a b} hlt e => by rw [e, lt_irr] at hlt; exact absurd hlt (by decide)) h
theorem Can.ext {a b : List (D × Int)} (ha : Can a) (hb : Can b) (h : ∀ f, lin f a = lin f b) : a = b := by
  have one : ∀ {a b : List (D × Int)}, Can a → Can b → (∀ f, lin f a = lin f b) → ∀ x, x ∈ a → x ∈ b := fun {a b} ha hb h x hx => by
    obtain ⟨k, c⟩ := x
    have e1 := lin_ind (srt_nodup ha.srt) hx
    rw [h] at e1
    have c1 : 1 ≤ c := ha.pos _ hx
    by_cases q : k ∈ b.map (·.1)
    · obtain ⟨y, hy, e⟩ := List.mem_map.mp q
      have hy : (k, y.2) ∈ b := by rw [← e]; exact hy
      have e2 := lin_ind (srt_nodup hb.srt) hy
      rw [e1] at e2
      rw [e2]; exact hy
    · rw [lin_out q] at e1
      omega
  refine srt_ext (r := fun p q : D × Int => PySem.W.dataLt p.1 q.1 = true) (fun x h => by rw [lt_irr] at h; exact absurd h (by decide)) (fun _ _ _ => lt_tr) ?_ ?_ fun x => ⟨one ha hb h x, one hb ha (fun f => (h f).symm) x⟩
  · have := ha.srt; rw [Srt, List.pairwise_map] at this; exact this
  · have := hb.srt; rw [Srt, List.pairwise_map] at this; exact this
noncomputable def sumL (l : List (D × Int)) : List (D × Int) := l.foldl (fun a p => addL p.1 p.2 a) []
theorem foldl_sum {f : D → Int} : ∀ (l a : List (D × Int)), lin f (l.foldl (fun a p => addL p.1 p.2 a) a) = lin f a + lin f l
  | [], a => by rw [lin_nil]; show lin f a = _; omega
  | p :: l, a => by rw [List.foldl_cons, foldl_sum l, lin_addL, lin_cons]; omega
theorem lin_sum {f : D → Int} {l : List (D × Int)} : lin f (sumL l) = lin f l := by
  unfold sumL
  rw [foldl_sum, lin_nil]; omega
/-- what holds of a book that added up l -/
structure SumOk (l a : List (D × Int)) : Prop where
  nd : (a.map (·.1)).Nodup
  pos : ∀ p ∈ a, 1 ≤ p.2
  keys : ∀ x, x ∈ a.map (·.1) ↔ x ∈ l.map (·.1)
  len : a.length ≤ l.length
  lin : ∀ f, PV.lin f a = PV.lin f l
theorem sumOk_nil : SumOk [] [] := ⟨.nil, by simp, by simp, by simp, fun _ => rfl⟩
theorem sumOk_add {l a : List (D × Int)} {k : D} {c : Int} (h : SumOk l a) (hc : 1 ≤ c) : SumOk (l ++ [(k, c)]) (addL k c a) := by
  obtain ⟨h1, h2, h3, h4, h5⟩ := put_keys (k := k) (v := (getL k a).getD 0 + c) (l := a)
  refine ⟨h2 h.nd, fun p hp => ?_, fun x => ?_, ?_, fun f => ?_⟩
  · rcases h5 p hp with z | z
    · exact h.pos p z
    · rw [z]
      show 1 ≤ (getL k a).getD 0 + c
      cases q : getL k a with
      | none => show 1 ≤ 0 + c; omega
      | some v =>
        have := h.pos _ (get_mem q)
        show 1 ≤ v + c
        have this : 1 ≤ v := this
        omega
  · show x ∈ (putL k _ a).map (·.1) ↔ _
    rw [h1, h.keys, List.map_append, List.mem_append, List.map_cons, List.map_nil, List.mem_singleton]
  · show (putL k _ a).length ≤ _
    have := h.len
    rw [List.length_append, List.length_singleton]; omega
  · rw [lin_addL, h.lin, lin_app, lin_cons, lin_nil]
    show _ = PV.lin f l + (c * f k + 0)
    omega
theorem sumOk_fold : ∀ (l : List (D × Int)) {l0 a : List (D × Int)}, SumOk l0 a → (∀ p ∈ l, 1 ≤ p.2) → SumOk (l0 ++ l) (l.foldl (fun a p => addL p.1 p.2 a) a)
  | [], l0, a, h, _ => by rw [List.append_nil]; exact h
  | p :: l, l0, a, h, hp => by
    have := sumOk_fold l (sumOk_add (k := p.1) h (hp p (by simp))) fun q hq => hp q (by simp [hq])
    rw [List.append_assoc] at this
    exact this
theorem sumOk {l : List (D × Int)} (hp : ∀ p ∈ l, 1 ≤ p.2) : SumOk l (sumL l) := by
  have := sumOk_fold l sumOk_nil hp
  rwa [List.nil_append] at this
/-! ### coded as data -/
def encP (p : D × Int) : D := .tuple [p.1, .int p.2]
def enc (l : List (D × Int)) : D := .tuple (l.map encP)
def decP : D → D × Int
  | .tuple [x, .int c] => (x, c)
  | d => (d, 0)
def dec : D → List (D × Int)
  | .tuple ds => ds.map decP
  | _ => []
theorem dec_enc (l : List (D × Int)) : dec (enc l) = l := by
  show (l.map encP).map decP = l
  rw [List.map_map]
  have : decP ∘ encP = id := by funext p; rfl
  rw [this, List.map_id]
theorem enc_inj {a b : List (D × Int)} (h : enc a = enc b) : a = b := by rw [← dec_enc a, h, dec_enc]
theorem lt_pair {t : Ty} {x y : D} {c d : Int} (hx : isT t x = true) (hy : isT t y = true) (hn : x ≠ y) : PySem.W.dataLt (encP (x, c)) (encP (y, d)) = PySem.W.dataLt x y := by
  show PySem.W.dataLt (.tuple [x, .int c]) (.tuple [y, .int d]) = _
  rw [PySem.W.dataLt_pair (isT_alike t _ _ hx hy) (isT_alike .int _ _ rfl rfl), if_neg]
  exact fun q => hn ((isT_eqv t _ _ hx hy).mp q)
theorem encP_T {t : Ty} {p : D × Int} (h : isT t p.1 = true) : isT (.pair t .int) (encP p) = true := isT_mk_pair h rfl
theorem decP_encP : decP ∘ encP = id := by funext p; rfl
/-- sorted(rows), rows of key and number, each key once -/
theorem sort_pairs {t : Ty} (ht : t.dep ≤ 50) {l : List (D × Int)} (hT : ∀ p ∈ l, isT t p.1 = true) (hn : (l.map (·.1)).Nodup) (hl : l.length ≤ 100000) : ∃ s : List (D × Int), s.Perm l ∧ Srt (s.map (·.1)) ∧ pSort1 [.list (l.map encP)] = some (.list (s.map encP)) := by
  have hp := List.mergeSort_perm (l.map encP) (PySem.W.dataLe false id)
  have back : ((l.map encP).mergeSort (PySem.W.dataLe false id)).map (encP ∘ decP) = (l.map encP).mergeSort (PySem.W.dataLe false id) := by
    refine map_id_of fun x hx => ?_
    obtain ⟨p, _, rfl⟩ := List.mem_map.mp (hp.mem_iff.mp hx)
    rfl
  have perm : (((l.map encP).mergeSort (PySem.W.dataLe false id)).map decP).Perm l := by
    have := hp.map decP
    rw [List.map_map, decP_encP, List.map_id] at this
    exact this
  refine ⟨((l.map encP).mergeSort (PySem.W.dataLe false id)).map decP, perm, ?_, ?_⟩
  · have hs := List.pairwise_mergeSort (le := PySem.W.dataLe false (id : D → D)) (fun a b c h1 h2 => by
      have h1 : (!PySem.W.dataLt b a) = true := h1
      have h2 : (!PySem.W.dataLt c b) = true := h2
      show (!PySem.W.dataLt c a) = true
      rw [Bool.not_eq_true'] at h1 h2 ⊢
      exact lt_nt h2 h1) (fun a b => by
      show ((!PySem.W.dataLt b a) || (!PySem.W.dataLt a b)) = true
      cases q : PySem.W.dataLt b a with
      | false => rfl
      | true => rw [lt_as q]; rfl) (l.map encP)
    have hnn : (((l.map encP).mergeSort (PySem.W.dataLe false id)).map decP |>.map (·.1)).Nodup := (perm.map (·.1)).nodup_iff.mpr hn
    rw [List.map_map, List.Nodup, List.pairwise_map] at hnn
    rw [List.map_map, Srt, List.pairwise_map]
    refine List.Pairwise.imp_of_mem (fun {a b} ha hb q => ?_) (hs.and hnn)
    obtain ⟨q1, q2⟩ := q
    obtain ⟨x, hx, rfl⟩ := List.mem_map.mp (hp.mem_iff.mp ha)
    obtain ⟨y, hy, rfl⟩ := List.mem_map.mp (hp.mem_iff.mp hb)
    have q2 : x.1 ≠ y.1 := q2
    have q1 : (!PySem.W.dataLt (encP y) (encP x)) = true := q1
    rw [Bool.not_eq_true', lt_pair (hT y hy) (hT x hx) q2.symm] at q1
    show PySem.W.dataLt x.1 y.1 = true
    rcases lt_tot (hT x hx) (hT y hy) q2 with z | z
    · exact z
    · rw [z] at q1; exact absurd q1 (by decide)
  · have kT : ∀ d ∈ l.map encP, isT (.pair t .int) d = true := fun d hd => by
      obtain ⟨p, hp, rfl⟩ := List.mem_map.mp hd
      exact encP_T (hT p hp)
    have dp : (Ty.pair t .int).dep ≤ 60 := by show max t.dep 0 + 1 ≤ 60; omega
    have so : sortOk (l.map encP) = true := by
      unfold sortOk
      rw [Bool.and_eq_true, Bool.and_eq_true, Bool.and_eq_true]
      refine ⟨⟨⟨isT_alike_all kT, ?_⟩, List.all_eq_true.mpr fun d hd => decide_eq_true (Nat.le_trans (isT_depth _ d (kT d hd)) dp)⟩, decide_eq_true (by rw [List.length_map]; unfold sizeLine; omega)⟩
      unfold sortableB
      rw [Bool.or_eq_true]
      refine .inl (List.all_eq_true.mpr fun d hd => ?_)
      obtain ⟨p, hp, rfl⟩ := List.mem_map.mp hd
      rfl
    show (if sortOk (l.map encP) then some (PyData.list (sortD (l.map encP))) else none) = _
    rw [so, if_pos rfl, List.map_map, back]
    rfl
/-! ### normal form -/
open Classical in
noncomputable def nfL (l : List (D × Int)) : List (D × Int) := if h : ∃ s : List (D × Int), Can s ∧ ∀ f, lin f s = lin f l then Classical.choose h else []
theorem nf_eq {l s : List (D × Int)} (h : Can s) (e : ∀ f, lin f s = lin f l) : nfL l = s := by
  have ex : ∃ s : List (D × Int), Can s ∧ ∀ f, lin f s = lin f l := ⟨s, h, e⟩
  unfold nfL
  rw [dif_pos ex]
  obtain ⟨h1, h2⟩ := Classical.choose_spec ex
  exact h1.ext h fun f => by rw [h2, e]
/-- a book's sorted form is the normal form of what it added up -/
theorem nf_of {l a s : List (D × Int)} (h : SumOk l a) (hp : s.Perm a) (hs : Srt (s.map (·.1))) : nfL l = s :=
  nf_eq ⟨hs, fun p q => h.pos p (hp.mem_iff.mp q)⟩ fun f => by rw [lin_perm hp, h.lin]
structure NfOk (l s : List (D × Int)) : Prop where
  can : Can s
  lin : ∀ f, PV.lin f s = PV.lin f l
  len : s.length ≤ l.length
  keys : ∀ p ∈ s, p.1 ∈ l.map (·.1)
theorem nf_ok {t : Ty} (ht : t.dep ≤ 50) {l : List (D × Int)} (hT : ∀ p ∈ l, isT t p.1 = true) (hp : ∀ p ∈ l, 1 ≤ p.2) (hl : l.length ≤ 100000) : NfOk l (nfL l) := by
  have so := sumOk hp
  have sT : ∀ p ∈ sumL l, isT t p.1 = true := fun p hp => by
    obtain ⟨q, hq, e⟩ := List.mem_map.mp ((so.keys p.1).mp (List.mem_map_of_mem hp))
    rw [← e]; exact hT q hq
  obtain ⟨s, s1, s2, _⟩ := sort_pairs ht sT so.nd (by have := so.len; omega)
  rw [nf_of so s1 s2]
  refine ⟨⟨s2, fun p q => so.pos p (s1.mem_iff.mp q)⟩, fun f => by rw [lin_perm s1, so.lin], by rw [s1.length_eq]; exact so.len, fun p q => (so.keys p.1).mp (List.mem_map_of_mem (s1.mem_iff.mp q))⟩
theorem nf_can {l : List (D × Int)} (h : Can l) : nfL l = l := nf_eq h fun _ => rfl
/-! ### books as dicts -/
def bk (l : List (D × Int)) : List (D × D) := l.map fun p => (p.1, .int p.2)
/-- keys of one kind -/
structure Kf (P : D → Prop) (t : Ty) (q : Nat) : Prop where
  ty : ∀ x, P x → isT t x = true
  dp : t.dep ≤ 8
  kd : ∀ x, P x → keyKd x = q
  q0 : q ≠ 0
section
variable {P : D → Prop} {t : Ty} {q : Nat} {k : D} {l : List (D × Int)}
theorem Kf.fits (K : Kf P t q) (hk : P k) (h : ∀ p ∈ l, P p.1) : keyFits k (bk l) = true := by
  have q0 : (q != 0) = true := by simpa using K.q0
  cases l with
  | nil => show (keyKd k != 0) = true; rw [K.kd k hk]; exact q0
  | cons p r =>
    show (keyKd k != 0 && keyKd p.1 == keyKd k) = true
    rw [K.kd k hk, K.kd _ (h p (by simp)), q0]
    simp
theorem dlook_bk (hk : isT t k = true) : ∀ {l : List (D × Int)}, (∀ p ∈ l, isT t p.1 = true) → dlook k (bk l) = (getL k l).map .int
  | [], _ => rfl
  | p :: l, h => by
    show (if keyEq p.1 k = true then some (PyData.int p.2) else dlook k (bk l)) = Option.map _ (getL k (p :: l))
    unfold getL
    by_cases e : p.1 = k
    · rw [if_pos ((keyEq_iff (h p (by simp)) hk).mpr e), if_pos e]; rfl
    · rw [if_neg (fun z => e ((keyEq_iff (h p (by simp)) hk).mp z)), if_neg e, dlook_bk hk fun x hx => h x (by simp [hx])]
theorem dput_bk {v : Int} (hk : isT t k = true) : ∀ {l : List (D × Int)}, (∀ p ∈ l, isT t p.1 = true) → dput k (.int v) (bk l) = bk (putL k v l)
  | [], _ => rfl
  | p :: l, h => by
    show (if keyEq p.1 k = true then (p.1, PyData.int v) :: bk l else (p.1, .int p.2) :: dput k (.int v) (bk l)) = bk (putL k v (p :: l))
    unfold putL
    by_cases e : p.1 = k
    · rw [if_pos ((keyEq_iff (h p (by simp)) hk).mpr e), if_pos e]; rfl
    · rw [if_neg (fun z => e ((keyEq_iff (h p (by simp)) hk).mp z)), if_neg e, dput_bk hk fun x hx => h x (by simp [hx])]; rfl
theorem bk_put (K : Kf P t q) (hk : P k) (h : ∀ p ∈ l, P p.1) (hl : l.length < 100000) (v : Int) : putAt (.dict (bk l)) k (.int v) = some (.dict (bk (putL k v l))) := by
  show (if keyFits k (bk l) && decide ((bk l).length < sizeLine) then some (PyData.dict (dput k (.int v) (bk l))) else none) = _
  rw [K.fits hk h, decide_eq_true (by unfold bk; rw [List.length_map]; unfold sizeLine; omega), dput_bk (K.ty k hk) fun p hp => K.ty _ (h p hp)]
  rfl
theorem bk_add (K : Kf P t q) (hk : P k) (h : ∀ p ∈ l, P p.1) (hl : l.length < 100000) : ∃ v : Int, pDget2 [.dict (bk l), k, .int 0] = some (.int v) ∧ ∀ c : Int, putAt (.dict (bk l)) k (.int (v + c)) = some (.dict (bk (addL k c l))) := by
  refine ⟨(getL k l).getD 0, ?_, fun c => bk_put K hk h hl _⟩
  show (if keyFits k (bk l) && !isTopD (.int 0) then some ((dlook k (bk l)).getD (.int 0)) else none) = _
  rw [K.fits hk h, dlook_bk (K.ty k hk) fun p hp => K.ty _ (h p hp)]
  show some ((Option.map PyData.int (getL k l)).getD (.int 0)) = _
  cases getL k l <;> rfl
theorem bk_idx (K : Kf P t q) (hk : P k) (h : ∀ p ∈ l, P p.1) {c : Int} (hn : (l.map (·.1)).Nodup) (hm : (k, c) ∈ l) : pIdx [.dict (bk l), k] = some (.int c) := by
  show (if keyFits k (bk l) then dlook k (bk l) else none) = _
  rw [K.fits hk h, dlook_bk (K.ty k hk) fun p hp => K.ty _ (h p hp), get_of hn hm]
  rfl
end
theorem map_id2 {α : Type} {f : α → α} {l : List α} (h : ∀ x ∈ l, f x = x) : l.map f = l := by rw [List.map_congr_left h, List.map_id']
theorem ex_retZ {pg : Pg} {C : Orc} {i : Nat} {e : X} {ρ ρ1 : Rho} {d0 d : D} (h : ρ[i]? = some (some d0)) (he : evE pg C e ρ = .ok d ρ1) : exS pg C (.retZ i e) ρ = .ret d (ρ1.set i none) := by
  rw [exS, h]
  simp only [he]
end PV

set_option maxHeartbeats 4000000
namespace PV
open PySem
/-! ### law_k02: draws -/
theorem pGe_int {a b : Int} : pGe [.int a, .int b] = some (.bool (!decide (a < b))) := by
  show (if ordOk (.int a) (.int b) then some (PyData.bool (!PySem.W.dataLt (.int a) (.int b))) else none) = _
  rw [PySem.W.dataLt_int, if_pos (isT_ord (t := .int) rfl rfl (by decide))]
theorem ix6 {a b c d e f : D} : pIdx [.list [a, b, c, d, e, f], .int 0] = some a ∧ pIdx [.list [a, b, c, d, e, f], .int 1] = some b ∧ pIdx [.list [a, b, c, d, e, f], .int 2] = some c ∧ pIdx [.list [a, b, c, d, e, f], .int 3] = some d ∧ pIdx [.list [a, b, c, d, e, f], .int 4] = some e ∧ pIdx [.list [a, b, c, d, e, f], .int 5] = some f := ⟨rfl, rfl, rfl, rfl, rfl, rfl⟩
theorem pu6_3 {a b c d e f v : D} : putAt (.list [a, b, c, d, e, f]) (.int 3) v = some (.list [a, b, c, v, e, f]) := rfl
theorem pu6_4 {a b c d e f v : D} : putAt (.list [a, b, c, d, e, f]) (.int 4) v = some (.list [a, b, c, d, v, f]) := rfl
theorem pw18 : pPow [.int 10, .int 18] = some (.int 1000000000000000000) := by
  show (if (decide ((0:Int) ≤ 18) && decide ((18:Int) ≤ 1000000) && decide ((10:Int).natAbs < 2 ^ 64)) = true then some (PyData.int ((10:Int) ^ (18:Int).toNat)) else none) = _
  rw [if_pos (by decide)]
  rfl
theorem c_mix (n : Nat) (a k : Int) : ∃ v : Int, callF pgm (n + 1) 8 [.int a, .int k] = .ret (.int v) [] := by
  rw [callF_at (fi := fi_8) rfl rfl]
  have e1 := fmod_lo (a * 48271 + k * 69621 + 12345) (b := 2147483647) (by decide)
  have e2 := fmod_hi (a * 48271 + k * 69621 + 12345) (b := 2147483647) (by decide)
  have hm : ∀ z : Int, mulOk ((a * 48271 + k * 69621 + 12345).fmod 2147483647) z = true := fun z => mulOk_l (by omega) (by omega)
  simp only [fi_8, ex_0, ex_1, ex_asg, ex_asgO, ex_setI, ex_aug, ex_augI, ex_exp, ex_ite, ex_ret, ex_retO, ex_retN, ev_non, ev_bl, ev_int, ev_str, ew_var, ew_mv, ev_tup, ev_lst, ev_op, ev_not, ev_ite, ev_call, ev_dic, ev_and0, ev_and1, ev_or0, ev_or1, ev_es0, ev_es1, ev_os0, ev_osO, ev_osB, os_non, os_bl, os_int, os_str, os_var, os_mv, os_tup, os_lst, os_op, os_ite, os_call, os_not, os_mm, os_get, os_lc, os_dc, os_sortk, os_callk, ev_if0, ev_if1, ev_mm, ev_get, b_ok, t_ok, ab_ok, op_0, op_1, call_1, see, seeO, setS, setTg, setAll, startR, List.getElem?_cons_zero, List.getElem?_cons_succ, List.getElem?_nil, List.set_cons_zero, List.set_cons_succ, List.set_nil, List.length_cons, List.length_nil, List.map_cons, List.map_nil, List.cons_append, List.nil_append, List.replicate, Option.map_some, List.tail_cons, prim, pMul, pAdd, pMod, pInt1, mulOk_r (show (-18446744073709551616 : Int) < 48271 by decide) (by decide), mulOk_r (show (-18446744073709551616 : Int) < 69621 by decide) (by decide), mulOk_r (show (-18446744073709551616 : Int) < 7919 by decide) (by decide), hm, if_true, ne_eq, Int.reduceEq, not_false_iff]
  exact ⟨_, rfl⟩
def isSt (s : D) : Prop := ∃ (a b c d e : Int) (cs : List Int), s = .list [.int a, .int b, .int c, .int d, .int e, .list (cs.map PyData.int)] ∧ 0 ≤ c
theorem isSt.top {s : D} (h : isSt s) : isTopD s = true := by
  obtain ⟨_, _, _, _, _, _, rfl, _⟩ := h
  rfl
theorem c_box (n : Nat) (ns : List Int) (hl : ns.length ≤ 63) {c : Int} (hc : 0 ≤ c) : ∃ d, callF pgm (n + 1) 9 [.list (ns.map PyData.int), .int c] = .ret d [] ∧ isSt d := by
  rw [callF_at (fi := fi_9) rfl rfl]
  generalize callF pgm n = C
  refine ⟨_, ?_, 0, 0, c, 0, c, ns, rfl, hc⟩
  obtain ⟨L, hL⟩ : ∃ L, L = ns.map PyData.int := ⟨_, rfl⟩
  have hi : ∀ d ∈ L, pInt1 [d] = some d := fun d hd => by
    rw [hL] at hd
    obtain ⟨z, _, rfl⟩ := List.mem_map.mp hd
    rfl
  have Ll : L.length ≤ 63 := by rw [hL, List.length_map]; exact hl
  rw [← hL]
  have lc : evE pgm C (.lc (.op .int1 [(.var 2)]) (.nm 2) .each [(.var 0)] [] [2]) [some (.list L), some (.int c), none] = .ok (.list (L.map fun d => d)) [some (.list L), some (.int c), none] := by
    refine lc_all (os := [.inl (.list L)]) (ds := [.list L]) (items := L) (by simp only [ex_0, ex_1, ex_asg, ex_asgO, ex_setI, ex_aug, ex_augI, ex_exp, ex_ite, ex_ret, ex_retO, ex_retN, ev_non, ev_bl, ev_int, ev_str, ew_var, ew_mv, ev_tup, ev_lst, ev_op, ev_not, ev_ite, ev_call, ev_dic, ev_and0, ev_and1, ev_or0, ev_or1, ev_es0, ev_es1, ev_os0, ev_osO, ev_osB, os_non, os_bl, os_int, os_str, os_var, os_mv, os_tup, os_lst, os_op, os_ite, os_call, os_not, os_mm, os_get, os_lc, os_dc, os_sortk, os_callk, ev_if0, ev_if1, ev_mm, ev_get, b_ok, t_ok, ab_ok, op_0, op_1, call_1, see, seeO, setS, setTg, setAll, startR, List.getElem?_cons_zero, List.getElem?_cons_succ, List.getElem?_nil, List.set_cons_zero, List.set_cons_succ, List.set_nil, List.length_cons, List.length_nil, List.map_cons, List.map_nil, List.cons_append, List.nil_append, List.replicate, Option.map_some, List.tail_cons, prim, callR, giveOf, putBack, kd_0, kd_1, kd_2, kd_3, kd_4, kd_5, kd_6, kd_7, kd_8, kd_9, kd_10, kd_11, kd_12, kd_13, kd_14, kd_15, kd_16, kd_17, kd_18, kd_19, kd_20, kd_21, kd_22, kd_23]) rfl rfl (fun d hd => ⟨[some (.list L), some (.int c), some d], rfl, rfl, ?_⟩) rfl (by unfold sizeLine; omega)
    simp only [ex_0, ex_1, ex_asg, ex_asgO, ex_setI, ex_aug, ex_augI, ex_exp, ex_ite, ex_ret, ex_retO, ex_retN, ev_non, ev_bl, ev_int, ev_str, ew_var, ew_mv, ev_tup, ev_lst, ev_op, ev_not, ev_ite, ev_call, ev_dic, ev_and0, ev_and1, ev_or0, ev_or1, ev_es0, ev_es1, ev_os0, ev_osO, ev_osB, os_non, os_bl, os_int, os_str, os_var, os_mv, os_tup, os_lst, os_op, os_ite, os_call, os_not, os_mm, os_get, os_lc, os_dc, os_sortk, os_callk, ev_if0, ev_if1, ev_mm, ev_get, b_ok, t_ok, ab_ok, op_0, op_1, call_1, see, seeO, setS, setTg, setAll, startR, List.getElem?_cons_zero, List.getElem?_cons_succ, List.getElem?_nil, List.set_cons_zero, List.set_cons_succ, List.set_nil, List.length_cons, List.length_nil, List.map_cons, List.map_nil, List.cons_append, List.nil_append, List.replicate, Option.map_some, List.tail_cons, prim, callR, giveOf, putBack, kd_0, kd_1, kd_2, kd_3, kd_4, kd_5, kd_6, kd_7, kd_8, kd_9, kd_10, kd_11, kd_12, kd_13, kd_14, kd_15, kd_16, kd_17, kd_18, kd_19, kd_20, kd_21, kd_22, kd_23, hi d hd]
  simp only [fi_9, ex_0, ex_1, ex_asg, ex_asgO, ex_setI, ex_aug, ex_augI, ex_exp, ex_ite, ex_ret, ex_retO, ex_retN, ev_non, ev_bl, ev_int, ev_str, ew_var, ew_mv, ev_tup, ev_lst, ev_op, ev_not, ev_ite, ev_call, ev_dic, ev_and0, ev_and1, ev_or0, ev_or1, ev_es0, ev_es1, ev_os0, ev_osO, ev_osB, os_non, os_bl, os_int, os_str, os_var, os_mv, os_tup, os_lst, os_op, os_ite, os_call, os_not, os_mm, os_get, os_lc, os_dc, os_sortk, os_callk, ev_if0, ev_if1, ev_mm, ev_get, b_ok, t_ok, ab_ok, op_0, op_1, call_1, see, seeO, setS, setTg, setAll, startR, List.getElem?_cons_zero, List.getElem?_cons_succ, List.getElem?_nil, List.set_cons_zero, List.set_cons_succ, List.set_nil, List.length_cons, List.length_nil, List.map_cons, List.map_nil, List.cons_append, List.nil_append, List.replicate, Option.map_some, List.tail_cons, prim, callR, giveOf, putBack, kd_0, kd_1, kd_2, kd_3, kd_4, kd_5, kd_6, kd_7, kd_8, kd_9, kd_10, kd_11, kd_12, kd_13, kd_14, kd_15, kd_16, kd_17, kd_18, kd_19, kd_20, kd_21, kd_22, kd_23, lc, List.map_id', Nat.reduceAdd, ft0, ft1, ft2, ft3, ft4, ft5, ft6, ft7, ft8, ft9, ft10, if_true, endOf, givenOf]
theorem c_draw_tail (n : Nat) (lim a b c d e : Int) (cs : List Int) (h1 : 0 < lim) (h2 : lim < 1073741824) (hc : 0 ≤ c) (o2 : Option D) : ∃ (v : Int) (s' : D),
    endOf pgm 10 (exSs pgm (callF pgm (n + 1)) (fi_10.body.drop 1) [some (.list [.int a, .int b, .int c, .int d, .int e, .list (cs.map PyData.int)]), some (.int lim), o2, none]) = .ret (.int v) [s'] ∧ isSt s' ∧ 0 ≤ v ∧ v < lim := by
  obtain ⟨w, hw⟩ := c_mix n e (d + 1)
  generalize callF pgm (n + 1) = C at hw
  have hne : lim ≠ 0 := by omega
  have hdiv : ∀ z : Int, divOk z lim = true := fun z => by
    unfold divOk
    rw [Bool.or_eq_true, Bool.and_eq_true]
    exact .inl ⟨decide_eq_true hne, decide_eq_true (by omega)⟩
  generalize hcs : PyData.list (cs.map PyData.int) = cl
  have fin : ∃ (v : Int) (s' : D), endOf pgm 10 (exSs pgm C (fi_10.body.drop 2) [some (.list [.int a, .int b, .int c, .int d, .int e, cl]), some (.int lim), o2, none]) = .ret (.int v) [s'] ∧ isSt s' ∧ 0 ≤ v ∧ v < lim := by
    refine ⟨w.fmod lim, .list [.int a, .int 0, .int c, .int (d + 1), .int e, cl], ?_, ⟨a, 0, c, d + 1, e, cs, by rw [hcs], hc⟩, fmod_lo _ h1, fmod_hi _ h1⟩
    simp only [fi_10, List.drop_succ_cons, List.drop_zero, ex_0, ex_1, ex_asg, ex_asgO, ex_setI, ex_aug, ex_augI, ex_exp, ex_ite, ex_ret, ex_retO, ex_retN, ev_non, ev_bl, ev_int, ev_str, ew_var, ew_mv, ev_tup, ev_lst, ev_op, ev_not, ev_ite, ev_call, ev_dic, ev_and0, ev_and1, ev_or0, ev_or1, ev_es0, ev_es1, ev_os0, ev_osO, ev_osB, os_non, os_bl, os_int, os_str, os_var, os_mv, os_tup, os_lst, os_op, os_ite, os_call, os_not, os_mm, os_get, os_lc, os_dc, os_sortk, os_callk, ev_if0, ev_if1, ev_mm, ev_get, b_ok, t_ok, ab_ok, op_0, op_1, call_1, see, seeO, setS, setTg, setAll, startR, List.getElem?_cons_zero, List.getElem?_cons_succ, List.getElem?_nil, List.set_cons_zero, List.set_cons_succ, List.set_nil, List.length_cons, List.length_nil, List.map_cons, List.map_nil, List.cons_append, List.nil_append, List.replicate, Option.map_some, List.tail_cons, prim, callR, giveOf, putBack, kd_0, kd_1, kd_2, kd_3, kd_4, kd_5, kd_6, kd_7, kd_8, kd_9, kd_10, kd_11, kd_12, kd_13, kd_14, kd_15, kd_16, kd_17, kd_18, kd_19, kd_20, kd_21, kd_22, kd_23, ix6_0, ix6_1, ix6_2, ix6_3, ix6_4, ix6_5, pu6_0, pu6_1, pu6_2, pu6_3, pu6_4, pAdd_ii, hw, pInt1, pMod, hne, ne_eq, not_false_iff, if_true, endOf, givenOf]
  have split : ∀ t : Bool, asBool (evE pgm C (.and [(.op .gt [(.op .idx [(.own 0), (.int 1)]), (.int 0)]), (.op .gt [(.op .idx [(.own 0), (.int 0)]), (.int 0)])]) [some (.list [.int a, .int b, .int c, .int d, .int e, cl]), some (.int lim), o2, none]) = .ok t [some (.list [.int a, .int b, .int c, .int d, .int e, cl]), some (.int lim), o2, none] → ∃ (v : Int) (s' : D),
      endOf pgm 10 (exSs pgm C (fi_10.body.drop 1) [some (.list [.int a, .int b, .int c, .int d, .int e, cl]), some (.int lim), o2, none]) = .ret (.int v) [s'] ∧ isSt s' ∧ 0 ≤ v ∧ v < lim := fun t ht => by
    cases t with
    | true =>
      refine ⟨a.fmod lim, .list [.int (a.fdiv lim), .int (b - 1), .int c, .int d, .int e, cl], ?_, ⟨_, _, c, d, e, cs, by rw [hcs], hc⟩, fmod_lo _ h1, fmod_hi _ h1⟩
      rw [show fi_10.body.drop 1 = (.ite (.and [(.op .gt [(.op .idx [(.own 0), (.int 1)]), (.int 0)]), (.op .gt [(.op .idx [(.own 0), (.int 0)]), (.int 0)])]) [(.asg (.nm 3) (.op .mod [(.op .int1 [(.op .idx [(.own 0), (.int 0)])]), (.var 1)])),
    (.setI 0 (.int 0) (.op .fdiv [(.op .idx [(.own 0), (.int 0)]), (.var 1)])),
    (.setI 0 (.int 1) (.op .sub [(.op .idx [(.own 0), (.int 1)]), (.int 1)])),
    (.ret (.var 3))] []) :: fi_10.body.drop 2 from rfl, ex_1, ex_ite, ht, t_ok]
      simp only [ex_0, ex_1, ex_asg, ex_asgO, ex_setI, ex_aug, ex_augI, ex_exp, ex_ite, ex_ret, ex_retO, ex_retN, ev_non, ev_bl, ev_int, ev_str, ew_var, ew_mv, ev_tup, ev_lst, ev_op, ev_not, ev_ite, ev_call, ev_dic, ev_and0, ev_and1, ev_or0, ev_or1, ev_es0, ev_es1, ev_os0, ev_osO, ev_osB, os_non, os_bl, os_int, os_str, os_var, os_mv, os_tup, os_lst, os_op, os_ite, os_call, os_not, os_mm, os_get, os_lc, os_dc, os_sortk, os_callk, ev_if0, ev_if1, ev_mm, ev_get, b_ok, t_ok, ab_ok, op_0, op_1, call_1, see, seeO, setS, setTg, setAll, startR, List.getElem?_cons_zero, List.getElem?_cons_succ, List.getElem?_nil, List.set_cons_zero, List.set_cons_succ, List.set_nil, List.length_cons, List.length_nil, List.map_cons, List.map_nil, List.cons_append, List.nil_append, List.replicate, Option.map_some, List.tail_cons, prim, callR, giveOf, putBack, kd_0, kd_1, kd_2, kd_3, kd_4, kd_5, kd_6, kd_7, kd_8, kd_9, kd_10, kd_11, kd_12, kd_13, kd_14, kd_15, kd_16, kd_17, kd_18, kd_19, kd_20, kd_21, kd_22, kd_23, ix6_0, ix6_1, pu6_0, pu6_1, pSub, pInt1, pMod, pFdiv, hne, hdiv, ne_eq, not_false_iff, if_true, endOf, givenOf]
    | false =>
      obtain ⟨v, s', f1, f2, f3, f4⟩ := fin
      refine ⟨v, s', ?_, f2, f3, f4⟩
      rw [← f1, show fi_10.body.drop 1 = (.ite (.and [(.op .gt [(.op .idx [(.own 0), (.int 1)]), (.int 0)]), (.op .gt [(.op .idx [(.own 0), (.int 0)]), (.int 0)])]) [(.asg (.nm 3) (.op .mod [(.op .int1 [(.op .idx [(.own 0), (.int 0)])]), (.var 1)])),
    (.setI 0 (.int 0) (.op .fdiv [(.op .idx [(.own 0), (.int 0)]), (.var 1)])),
    (.setI 0 (.int 1) (.op .sub [(.op .idx [(.own 0), (.int 1)]), (.int 1)])),
    (.ret (.var 3))] []) :: fi_10.body.drop 2 from rfl, ex_1, ex_ite, ht, t_ok]
      simp only [if_false, Bool.false_eq_true, ex_0]
  by_cases q1 : 0 < b
  · refine split (decide (0 < a)) ?_
    simp only [ex_0, ex_1, ex_asg, ex_asgO, ex_setI, ex_aug, ex_augI, ex_exp, ex_ite, ex_ret, ex_retO, ex_retN, ev_non, ev_bl, ev_int, ev_str, ew_var, ew_mv, ev_tup, ev_lst, ev_op, ev_not, ev_ite, ev_call, ev_dic, ev_and0, ev_and1, ev_or0, ev_or1, ev_es0, ev_es1, ev_os0, ev_osO, ev_osB, os_non, os_bl, os_int, os_str, os_var, os_mv, os_tup, os_lst, os_op, os_ite, os_call, os_not, os_mm, os_get, os_lc, os_dc, os_sortk, os_callk, ev_if0, ev_if1, ev_mm, ev_get, b_ok, t_ok, ab_ok, op_0, op_1, call_1, see, seeO, setS, setTg, setAll, startR, List.getElem?_cons_zero, List.getElem?_cons_succ, List.getElem?_nil, List.set_cons_zero, List.set_cons_succ, List.set_nil, List.length_cons, List.length_nil, List.map_cons, List.map_nil, List.cons_append, List.nil_append, List.replicate, Option.map_some, List.tail_cons, prim, callR, giveOf, putBack, kd_0, kd_1, kd_2, kd_3, kd_4, kd_5, kd_6, kd_7, kd_8, kd_9, kd_10, kd_11, kd_12, kd_13, kd_14, kd_15, kd_16, kd_17, kd_18, kd_19, kd_20, kd_21, kd_22, kd_23, ix6_0, ix6_1, pGt_int, decide_eq_true q1, if_true]
  · refine split false ?_
    simp only [ex_0, ex_1, ex_asg, ex_asgO, ex_setI, ex_aug, ex_augI, ex_exp, ex_ite, ex_ret, ex_retO, ex_retN, ev_non, ev_bl, ev_int, ev_str, ew_var, ew_mv, ev_tup, ev_lst, ev_op, ev_not, ev_ite, ev_call, ev_dic, ev_and0, ev_and1, ev_or0, ev_or1, ev_es0, ev_es1, ev_os0, ev_osO, ev_osB, os_non, os_bl, os_int, os_str, os_var, os_mv, os_tup, os_lst, os_op, os_ite, os_call, os_not, os_mm, os_get, os_lc, os_dc, os_sortk, os_callk, ev_if0, ev_if1, ev_mm, ev_get, b_ok, t_ok, ab_ok, op_0, op_1, call_1, see, seeO, setS, setTg, setAll, startR, List.getElem?_cons_zero, List.getElem?_cons_succ, List.getElem?_nil, List.set_cons_zero, List.set_cons_succ, List.set_nil, List.length_cons, List.length_nil, List.map_cons, List.map_nil, List.cons_append, List.nil_append, List.replicate, Option.map_some, List.tail_cons, prim, callR, giveOf, putBack, kd_0, kd_1, kd_2, kd_3, kd_4, kd_5, kd_6, kd_7, kd_8, kd_9, kd_10, kd_11, kd_12, kd_13, kd_14, kd_15, kd_16, kd_17, kd_18, kd_19, kd_20, kd_21, kd_22, kd_23, ix6_0, ix6_1, pGt_int, decide_eq_false q1, if_false, Bool.false_eq_true]
abbrev Take (C : Orc) : Prop := ∀ {d : D} (hs : isSt d) {lim : Int} (h1 : 0 < lim) (h2 : lim < 1073741824), ∃ (v : Int) (d' : D), C 10 [d, .int lim] = .ret (.int v) [d'] ∧ isSt d' ∧ 0 ≤ v ∧ v < lim
theorem c_take (n : Nat) : Take (callF pgm (n + 2)) := by
  intro d0 hs lim h1 h2
  obtain ⟨a, b, c, d, e, cs, rfl, hc⟩ := hs
  rw [callF_at (fi := fi_10) rfl rfl]
  have eb : fi_10.body = fi_10.body.take 1 ++ fi_10.body.drop 1 := (List.take_append_drop 1 _).symm
  rw [eb, ex_app]
  have tl := fun a b c d e hc o2 => c_draw_tail n lim a b c d e cs h1 h2 hc o2
  generalize fi_10.body.drop 1 = tail at tl
  generalize callF pgm (n + 1) = C at tl ⊢
  by_cases q : b = 0
  · by_cases ql : c < (cs.length : Int)
    · obtain ⟨z, hz⟩ := pIdx_ints hc ql
      generalize hcs : PyData.list (cs.map PyData.int) = cl at *
      have pl : pLen [cl] = some (.int (cs.length : Nat)) := by rw [← hcs]; show some (PyData.int ((cs.map PyData.int).length : Nat)) = _; rw [List.length_map]
      by_cases qz : z < 1000000000000000000
      · have nx : exSs pgm C (fi_10.body.take 1) (startR fi_10 [.list [.int a, .int b, .int c, .int d, .int e, cl], .int lim]) = .nx [some (.list [.int a, .int b, .int (c + 2), .int d, .int ((e * 31 + z).fmod 2147483647), cl]), some (.int lim), some (.int z), none] := by
          simp only [fi_10, List.take_succ_cons, List.take_zero, ex_0, ex_1, ex_asg, ex_asgO, ex_setI, ex_aug, ex_augI, ex_exp, ex_ite, ex_ret, ex_retO, ex_retN, ev_non, ev_bl, ev_int, ev_str, ew_var, ew_mv, ev_tup, ev_lst, ev_op, ev_not, ev_ite, ev_call, ev_dic, ev_and0, ev_and1, ev_or0, ev_or1, ev_es0, ev_es1, ev_os0, ev_osO, ev_osB, os_non, os_bl, os_int, os_str, os_var, os_mv, os_tup, os_lst, os_op, os_ite, os_call, os_not, os_mm, os_get, os_lc, os_dc, os_sortk, os_callk, ev_if0, ev_if1, ev_mm, ev_get, b_ok, t_ok, ab_ok, op_0, op_1, call_1, see, seeO, setS, setTg, setAll, startR, List.getElem?_cons_zero, List.getElem?_cons_succ, List.getElem?_nil, List.set_cons_zero, List.set_cons_succ, List.set_nil, List.length_cons, List.length_nil, List.map_cons, List.map_nil, List.cons_append, List.nil_append, List.replicate, Option.map_some, List.tail_cons, prim, callR, giveOf, putBack, kd_0, kd_1, kd_2, kd_3, kd_4, kd_5, kd_6, kd_7, kd_8, kd_9, kd_10, kd_11, kd_12, kd_13, kd_14, kd_15, kd_16, kd_17, kd_18, kd_19, kd_20, kd_21, kd_22, kd_23, ix6_0, ix6_1, ix6_2, ix6_4, ix6_5, pu6_0, pu6_1, pu6_2, pu6_4, pEq_int, decide_eq_true q, pl, pLt_int, decide_eq_true ql, if_true, hz, pAdd_ii, pMul, mulOk_r (show (-18446744073709551616 : Int) < 31 by decide) (by decide), pInt1, pMod, ne_eq, Int.reduceEq, not_false_iff, pw18, pGe_int, decide_eq_true qz, Bool.not_true, if_false, Bool.false_eq_true]
        rw [nx]
        exact tl _ _ _ _ _ (by omega) _
      · have nx : exSs pgm C (fi_10.body.take 1) (startR fi_10 [.list [.int a, .int b, .int c, .int d, .int e, cl], .int lim]) = .nx [some (.list [.int (z - 1000000000000000000), .int 60, .int (c + 2), .int d, .int ((e * 31 + z).fmod 2147483647), cl]), some (.int lim), some (.int z), none] := by
          simp only [fi_10, List.take_succ_cons, List.take_zero, ex_0, ex_1, ex_asg, ex_asgO, ex_setI, ex_aug, ex_augI, ex_exp, ex_ite, ex_ret, ex_retO, ex_retN, ev_non, ev_bl, ev_int, ev_str, ew_var, ew_mv, ev_tup, ev_lst, ev_op, ev_not, ev_ite, ev_call, ev_dic, ev_and0, ev_and1, ev_or0, ev_or1, ev_es0, ev_es1, ev_os0, ev_osO, ev_osB, os_non, os_bl, os_int, os_str, os_var, os_mv, os_tup, os_lst, os_op, os_ite, os_call, os_not, os_mm, os_get, os_lc, os_dc, os_sortk, os_callk, ev_if0, ev_if1, ev_mm, ev_get, b_ok, t_ok, ab_ok, op_0, op_1, call_1, see, seeO, setS, setTg, setAll, startR, List.getElem?_cons_zero, List.getElem?_cons_succ, List.getElem?_nil, List.set_cons_zero, List.set_cons_succ, List.set_nil, List.length_cons, List.length_nil, List.map_cons, List.map_nil, List.cons_append, List.nil_append, List.replicate, Option.map_some, List.tail_cons, prim, callR, giveOf, putBack, kd_0, kd_1, kd_2, kd_3, kd_4, kd_5, kd_6, kd_7, kd_8, kd_9, kd_10, kd_11, kd_12, kd_13, kd_14, kd_15, kd_16, kd_17, kd_18, kd_19, kd_20, kd_21, kd_22, kd_23, ix6_0, ix6_1, ix6_2, ix6_4, ix6_5, pu6_0, pu6_1, pu6_2, pu6_4, pEq_int, decide_eq_true q, pl, pLt_int, decide_eq_true ql, if_true, hz, pAdd_ii, pSub, pMul, mulOk_r (show (-18446744073709551616 : Int) < 31 by decide) (by decide), pInt1, pMod, ne_eq, Int.reduceEq, not_false_iff, pw18, pGe_int, decide_eq_false qz, Bool.not_false]
        rw [nx]
        exact tl _ _ _ _ _ (by omega) _
    · have nx : exSs pgm C (fi_10.body.take 1) (startR fi_10 [.list [.int a, .int b, .int c, .int d, .int e, .list (cs.map PyData.int)], .int lim]) = .nx [some (.list [.int a, .int b, .int c, .int d, .int e, .list (cs.map PyData.int)]), some (.int lim), none, none] := by
        simp only [fi_10, List.take_succ_cons, List.take_zero, ex_0, ex_1, ex_asg, ex_asgO, ex_setI, ex_aug, ex_augI, ex_exp, ex_ite, ex_ret, ex_retO, ex_retN, ev_non, ev_bl, ev_int, ev_str, ew_var, ew_mv, ev_tup, ev_lst, ev_op, ev_not, ev_ite, ev_call, ev_dic, ev_and0, ev_and1, ev_or0, ev_or1, ev_es0, ev_es1, ev_os0, ev_osO, ev_osB, os_non, os_bl, os_int, os_str, os_var, os_mv, os_tup, os_lst, os_op, os_ite, os_call, os_not, os_mm, os_get, os_lc, os_dc, os_sortk, os_callk, ev_if0, ev_if1, ev_mm, ev_get, b_ok, t_ok, ab_ok, op_0, op_1, call_1, see, seeO, setS, setTg, setAll, startR, List.getElem?_cons_zero, List.getElem?_cons_succ, List.getElem?_nil, List.set_cons_zero, List.set_cons_succ, List.set_nil, List.length_cons, List.length_nil, List.map_cons, List.map_nil, List.cons_append, List.nil_append, List.replicate, Option.map_some, List.tail_cons, prim, callR, giveOf, putBack, kd_0, kd_1, kd_2, kd_3, kd_4, kd_5, kd_6, kd_7, kd_8, kd_9, kd_10, kd_11, kd_12, kd_13, kd_14, kd_15, kd_16, kd_17, kd_18, kd_19, kd_20, kd_21, kd_22, kd_23, ix6_1, ix6_2, ix6_5, pEq_int, decide_eq_true q, pLen, List.length_map, pLt_int, decide_eq_false ql, if_true, if_false, Bool.false_eq_true]
      rw [nx]
      exact tl _ _ _ _ _ hc _
  · have nx : exSs pgm C (fi_10.body.take 1) (startR fi_10 [.list [.int a, .int b, .int c, .int d, .int e, .list (cs.map PyData.int)], .int lim]) = .nx [some (.list [.int a, .int b, .int c, .int d, .int e, .list (cs.map PyData.int)]), some (.int lim), none, none] := by
      simp only [fi_10, List.take_succ_cons, List.take_zero, ex_0, ex_1, ex_asg, ex_asgO, ex_setI, ex_aug, ex_augI, ex_exp, ex_ite, ex_ret, ex_retO, ex_retN, ev_non, ev_bl, ev_int, ev_str, ew_var, ew_mv, ev_tup, ev_lst, ev_op, ev_not, ev_ite, ev_call, ev_dic, ev_and0, ev_and1, ev_or0, ev_or1, ev_es0, ev_es1, ev_os0, ev_osO, ev_osB, os_non, os_bl, os_int, os_str, os_var, os_mv, os_tup, os_lst, os_op, os_ite, os_call, os_not, os_mm, os_get, os_lc, os_dc, os_sortk, os_callk, ev_if0, ev_if1, ev_mm, ev_get, b_ok, t_ok, ab_ok, op_0, op_1, call_1, see, seeO, setS, setTg, setAll, startR, List.getElem?_cons_zero, List.getElem?_cons_succ, List.getElem?_nil, List.set_cons_zero, List.set_cons_succ, List.set_nil, List.length_cons, List.length_nil, List.map_cons, List.map_nil, List.cons_append, List.nil_append, List.replicate, Option.map_some, List.tail_cons, prim, callR, giveOf, putBack, kd_0, kd_1, kd_2, kd_3, kd_4, kd_5, kd_6, kd_7, kd_8, kd_9, kd_10, kd_11, kd_12, kd_13, kd_14, kd_15, kd_16, kd_17, kd_18, kd_19, kd_20, kd_21, kd_22, kd_23, ix6_1, pEq_int, decide_eq_false q, if_true, if_false, Bool.false_eq_true]
    rw [nx]
    exact tl _ _ _ _ _ hc _
theorem c_token (n : Nat) {st : D} (hs : isSt st) : ∃ (x st' : D), callF pgm (n + 3) 12 [st] = .ret x [st'] ∧ isSt st' ∧ isT .str x = true := by
  rw [callF_at (fi := fi_12) rfl rfl]
  have take : Take (callF pgm (n + 2)) := c_take n
  generalize callF pgm (n + 2) = C at take
  obtain ⟨v1, s1, t1, hs1, v1a, v1b⟩ := take hs (lim := 4) (by decide) (by decide)
  by_cases q : 0 < v1
  · obtain ⟨v2, s2, t2, hs2, v2a, v2b⟩ := take hs1 (lim := 7) (by decide) (by decide)
    obtain ⟨x, hx, ix⟩ := pIdx_mem (ds := [.str "a1", .str "a2", .str "a10", .str "b1", .str "a100", .str "z9999", .str "b12"]) (v := v2) v2a (by simpa using v2b)
    refine ⟨x, s2, ?_, hs2, ?_⟩
    · simp only [fi_12, ex_0, ex_1, ex_asg, ex_asgO, ex_setI, ex_aug, ex_augI, ex_exp, ex_ite, ex_ret, ex_retO, ex_retN, ev_non, ev_bl, ev_int, ev_str, ew_var, ew_mv, ev_tup, ev_lst, ev_op, ev_not, ev_ite, ev_call, ev_dic, ev_and0, ev_and1, ev_or0, ev_or1, ev_es0, ev_es1, ev_os0, ev_osO, ev_osB, os_non, os_bl, os_int, os_str, os_var, os_mv, os_tup, os_lst, os_op, os_ite, os_call, os_not, os_mm, os_get, os_lc, os_dc, os_sortk, os_callk, ev_if0, ev_if1, ev_mm, ev_get, b_ok, t_ok, ab_ok, op_0, op_1, call_1, see, seeO, setS, setTg, setAll, startR, List.getElem?_cons_zero, List.getElem?_cons_succ, List.getElem?_nil, List.set_cons_zero, List.set_cons_succ, List.set_nil, List.length_cons, List.length_nil, List.map_cons, List.map_nil, List.cons_append, List.nil_append, List.replicate, Option.map_some, List.tail_cons, prim, callR, giveOf, putBack, kd_0, kd_1, kd_2, kd_3, kd_4, kd_5, kd_6, kd_7, kd_8, kd_9, kd_10, kd_11, kd_12, kd_13, kd_14, kd_15, kd_16, kd_17, kd_18, kd_19, kd_20, kd_21, kd_22, kd_23, t1, pGt_int, decide_eq_true q, if_true, Nat.reduceAdd, ft0, ft1, ft2, ft3, ft4, ft5, ft6, ft7, ft8, ft9, ft10, t2, ix, endOf, givenOf]
    · simp only [List.mem_cons, List.not_mem_nil, or_false] at hx
      rcases hx with rfl | rfl | rfl | rfl | rfl | rfl | rfl <;> rfl
  · obtain ⟨v2, s2, t2, hs2, v2a, v2b⟩ := take hs1 (lim := 3) (by decide) (by decide)
    obtain ⟨c, _, ic⟩ := letter_at v2a v2b
    obtain ⟨v3, s3, t3, hs3, v3a, v3b⟩ := take hs2 (lim := 2) (by decide) (by decide)
    obtain ⟨m, im, m1, m2⟩ := pIdx_int (ds := [.int 9, .int 9999]) (v := v3) (P := fun a => 1 ≤ a ∧ a ≤ 9999) v3a (by simpa using v3b) (by
      intro d hd
      simp only [List.mem_cons, List.not_mem_nil, or_false] at hd
      rcases hd with rfl | rfl
      all_goals exact ⟨_, rfl, by omega, by omega⟩)
    obtain ⟨a, s4, t4, hs4, a0, a1⟩ := take hs3 (lim := m) (by omega) (by omega)
    refine ⟨tokOf c (1 + a), s4, ?_, hs4, rfl⟩
    simp only [fi_12, ex_0, ex_1, ex_asg, ex_asgO, ex_setI, ex_aug, ex_augI, ex_exp, ex_ite, ex_ret, ex_retO, ex_retN, ev_non, ev_bl, ev_int, ev_str, ew_var, ew_mv, ev_tup, ev_lst, ev_op, ev_not, ev_ite, ev_call, ev_dic, ev_and0, ev_and1, ev_or0, ev_or1, ev_es0, ev_es1, ev_os0, ev_osO, ev_osB, os_non, os_bl, os_int, os_str, os_var, os_mv, os_tup, os_lst, os_op, os_ite, os_call, os_not, os_mm, os_get, os_lc, os_dc, os_sortk, os_callk, ev_if0, ev_if1, ev_mm, ev_get, b_ok, t_ok, ab_ok, op_0, op_1, call_1, see, seeO, setS, setTg, setAll, startR, List.getElem?_cons_zero, List.getElem?_cons_succ, List.getElem?_nil, List.set_cons_zero, List.set_cons_succ, List.set_nil, List.length_cons, List.length_nil, List.map_cons, List.map_nil, List.cons_append, List.nil_append, List.replicate, Option.map_some, List.tail_cons, prim, callR, giveOf, putBack, kd_0, kd_1, kd_2, kd_3, kd_4, kd_5, kd_6, kd_7, kd_8, kd_9, kd_10, kd_11, kd_12, kd_13, kd_14, kd_15, kd_16, kd_17, kd_18, kd_19, kd_20, kd_21, kd_22, kd_23, t1, pGt_int, decide_eq_false q, if_false, Bool.false_eq_true, t2, ic, t3, Nat.reduceAdd, ft0, ft1, ft2, ft3, ft4, ft5, ft6, ft7, ft8, ft9, ft10, if_true, im, t4, pAdd_ii, pStr1_small (a := 1 + a) (by omega) (by omega), pAdd_tok (c := c) (a := 1 + a) (by omega) (by omega), endOf, givenOf]
end PV

set_option maxHeartbeats 4000000
namespace PV
open PySem
/-! ### law_k02: sorted keys, normal polynomials, drawn ones -/
mutual
theorem flat_T : ∀ (t : Ty) (x : D), isT t x = true → flatD x = true
  | .int, x, h => by obtain ⟨i, rfl⟩ := isT_int h; rfl
  | .str, x, h => by obtain ⟨i, rfl⟩ := isT_str h; rfl
  | .seq t, x, h => by
    obtain ⟨ds, rfl, h2⟩ := isT_seq h
    exact flats_T t ds h2
  | .pair a b, x, h => by
    obtain ⟨u, v, rfl, h1, h2⟩ := isT_pair h
    show (flatD u && (flatD v && true)) = true
    rw [flat_T a u h1, flat_T b v h2]; rfl
theorem flats_T : ∀ (t : Ty) (xs : List D), (∀ x ∈ xs, isT t x = true) → flatDs xs = true
  | t, [], _ => rfl
  | t, x :: xs, h => by
    show (flatD x && flatDs xs) = true
    rw [flat_T t x (h x (by simp)), flats_T t xs fun z hz => h z (by simp [hz])]; rfl
end
theorem lk_of {C : Orc} {ρ ρ' : Rho} {i : Nat} {hs : List Nat} {x : X} {d d0 : D} (h : ρ[i]? = some (some d0)) (he : evE pgm C x (wipeR ρ hs) = .ok d ρ') (hf : flatD d = true) : evE pgm C (.lk i hs x) ρ = .ok d ρ := by
  rw [evE, h]
  simp only [he, hf, if_true]
abbrev insS : List S := [(.exp (.mm .insert 1 [(.op .len [(.lc (.var 3) (.nm 3) .each [(.own 1)] [(.op .lt [(.var 3), (.var 2)])] [3])]), (.var 2)]))]
theorem c_sorted (n : Nat) {t : Ty} (ht : t.dep ≤ 60) {rows : List D} (hT : ∀ x ∈ rows, isT t x = true) (hn : rows.Nodup) (hl : rows.length ≤ 1000) : ∃ out : List D, callF pgm (n + 1) 13 [.list rows] = .ret (.list out) [] ∧ Srt out ∧ out.Perm rows := by
  rw [callF_at (fi := fi_13) rfl rfl]
  generalize callF pgm n = C
  obtain ⟨ρ', hf, f, o2, rfl, h1, h2⟩ : ∃ ρ', forL (fun r => exSs pgm C insS r) (.nm 2) rows [some (.list rows), some (.list []), none, none] = .nx ρ' ∧
      ∃ (f : List D) (o2 : Option D), ρ' = [some (.list rows), some (.list f), o2, none] ∧ Srt f ∧ f.Perm rows := by
    refine forL_nx (fun pre ρ => ∃ (f : List D) (o2 : Option D), ρ = [some (.list rows), some (.list f), o2, none] ∧ Srt f ∧ f.Perm pre) _ _ ⟨[], none, rfl, .nil, .nil⟩ ?_
    rintro pre d post ρ hd ⟨f, o2, rfl, h1, h2⟩
    have hdT : isT t d = true := hT d (by rw [hd]; simp)
    have hfT : ∀ z ∈ f, isT t z = true := fun z hz => hT z (by rw [hd]; simp [h2.mem_iff.mp hz])
    have hlen : f.length ≤ 1000 := by
      have := congrArg List.length hd
      rw [List.length_append, List.length_cons] at this
      rw [h2.length_eq]; omega
    have hdn : d ∉ f := fun z => by
      rw [hd, List.nodup_append] at hn
      exact hn.2.2 d (h2.mem_iff.mp z) d (by simp) rfl
    obtain ⟨k, hk⟩ : ∃ k, k = (f.filter fun z => PySem.W.dataLt z d).length := ⟨_, rfl⟩
    have hkl : k ≤ f.length := by rw [hk]; exact List.length_filter_le _ _
    have hlc : evE pgm C (.lc (.var 3) (.nm 3) .each [(.own 1)] [(.op .lt [(.var 3), (.var 2)])] [3]) [some (.list rows), some (.list f), some d, none] = .ok (.list ((f.filter fun z => PySem.W.dataLt z d).map fun z => z)) [some (.list rows), some (.list f), some d, none] := by
      refine lc_pure (os := [.inr 1]) (ds := [.list f]) (items := f) (by simp only [ex_0, ex_1, ex_asg, ex_asgO, ex_setI, ex_aug, ex_augI, ex_exp, ex_ite, ex_ret, ex_retO, ex_retN, ev_non, ev_bl, ev_int, ev_str, ew_var, ew_mv, ev_tup, ev_lst, ev_op, ev_not, ev_ite, ev_call, ev_dic, ev_and0, ev_and1, ev_or0, ev_or1, ev_es0, ev_es1, ev_os0, ev_osO, ev_osB, os_non, os_bl, os_int, os_str, os_var, os_mv, os_tup, os_lst, os_op, os_ite, os_call, os_not, os_mm, os_get, os_lc, os_dc, os_sortk, os_callk, ev_if0, ev_if1, ev_mm, ev_get, b_ok, t_ok, ab_ok, op_0, op_1, call_1, see, seeO, setS, setTg, setAll, startR, List.getElem?_cons_zero, List.getElem?_cons_succ, List.getElem?_nil, List.set_cons_zero, List.set_cons_succ, List.set_nil, List.length_cons, List.length_nil, List.map_cons, List.map_nil, List.cons_append, List.nil_append, List.replicate, Option.map_some, List.tail_cons, prim, callR, giveOf, putBack, kd_0, kd_1, kd_2, kd_3, kd_4, kd_5, kd_6, kd_7, kd_8, kd_9, kd_10, kd_11, kd_12, kd_13, kd_14, kd_15, kd_16, kd_17, kd_18, kd_19, kd_20, kd_21, kd_22, kd_23]) rfl rfl (fun z hz => ⟨[some (.list rows), none, some d, some z], rfl, rfl, ?_, fun _ => by simp only [ex_0, ex_1, ex_asg, ex_asgO, ex_setI, ex_aug, ex_augI, ex_exp, ex_ite, ex_ret, ex_retO, ex_retN, ev_non, ev_bl, ev_int, ev_str, ew_var, ew_mv, ev_tup, ev_lst, ev_op, ev_not, ev_ite, ev_call, ev_dic, ev_and0, ev_and1, ev_or0, ev_or1, ev_es0, ev_es1, ev_os0, ev_osO, ev_osB, os_non, os_bl, os_int, os_str, os_var, os_mv, os_tup, os_lst, os_op, os_ite, os_call, os_not, os_mm, os_get, os_lc, os_dc, os_sortk, os_callk, ev_if0, ev_if1, ev_mm, ev_get, b_ok, t_ok, ab_ok, op_0, op_1, call_1, see, seeO, setS, setTg, setAll, startR, List.getElem?_cons_zero, List.getElem?_cons_succ, List.getElem?_nil, List.set_cons_zero, List.set_cons_succ, List.set_nil, List.length_cons, List.length_nil, List.map_cons, List.map_nil, List.cons_append, List.nil_append, List.replicate, Option.map_some, List.tail_cons, prim, callR, giveOf, putBack, kd_0, kd_1, kd_2, kd_3, kd_4, kd_5, kd_6, kd_7, kd_8, kd_9, kd_10, kd_11, kd_12, kd_13, kd_14, kd_15, kd_16, kd_17, kd_18, kd_19, kd_20, kd_21, kd_22, kd_23]⟩) rfl (by unfold sizeLine; omega)
      simp only [ex_0, ex_1, ex_asg, ex_asgO, ex_setI, ex_aug, ex_augI, ex_exp, ex_ite, ex_ret, ex_retO, ex_retN, ev_non, ev_bl, ev_int, ev_str, ew_var, ew_mv, ev_tup, ev_lst, ev_op, ev_not, ev_ite, ev_call, ev_dic, ev_and0, ev_and1, ev_or0, ev_or1, ev_es0, ev_es1, ev_os0, ev_osO, ev_osB, os_non, os_bl, os_int, os_str, os_var, os_mv, os_tup, os_lst, os_op, os_ite, os_call, os_not, os_mm, os_get, os_lc, os_dc, os_sortk, os_callk, ev_if0, ev_if1, ev_mm, ev_get, b_ok, t_ok, ab_ok, op_0, op_1, call_1, see, seeO, setS, setTg, setAll, startR, List.getElem?_cons_zero, List.getElem?_cons_succ, List.getElem?_nil, List.set_cons_zero, List.set_cons_succ, List.set_nil, List.length_cons, List.length_nil, List.map_cons, List.map_nil, List.cons_append, List.nil_append, List.replicate, Option.map_some, List.tail_cons, prim, callR, giveOf, putBack, kd_0, kd_1, kd_2, kd_3, kd_4, kd_5, kd_6, kd_7, kd_8, kd_9, kd_10, kd_11, kd_12, kd_13, kd_14, kd_15, kd_16, kd_17, kd_18, kd_19, kd_20, kd_21, kd_22, kd_23, pLt_t ht (hfT z hz) hdT]
    have hins : meth .insert (.list f) [.int (k : Int), d] = some (.none, .list (ins d f)) := by
      show (if decide ((0 : Int) ≤ (k : Int)) && decide ((k : Int) ≤ (f.length : Int)) && decide (f.length < sizeLine) then some (PyData.none, PyData.list (f.take (k : Int).toNat ++ d :: f.drop (k : Int).toNat)) else none) = _
      rw [decide_eq_true (by omega), decide_eq_true (by omega), decide_eq_true (by unfold sizeLine; omega), Int.toNat_natCast]
      unfold ins
      rw [← hk]
      rfl
    have hmm : evE pgm C (.mm .insert 1 [(.op .len [(.lc (.var 3) (.nm 3) .each [(.own 1)] [(.op .lt [(.var 3), (.var 2)])] [3])]), (.var 2)]) [some (.list rows), some (.list f), some d, none] = .ok .none [some (.list rows), some (.list (ins d f)), some d, none] := by
      refine mm_at (ds := f) (vs := [.int (k : Int), d]) (ρ1 := [some (.list rows), some (.list f), some d, none]) (d := .list f) rfl ?_ rfl hins
      simp only [ex_0, ex_1, ex_asg, ex_asgO, ex_setI, ex_aug, ex_augI, ex_exp, ex_ite, ex_ret, ex_retO, ex_retN, ev_non, ev_bl, ev_int, ev_str, ew_var, ew_mv, ev_tup, ev_lst, ev_op, ev_not, ev_ite, ev_call, ev_dic, ev_and0, ev_and1, ev_or0, ev_or1, ev_es0, ev_es1, ev_os0, ev_osO, ev_osB, os_non, os_bl, os_int, os_str, os_var, os_mv, os_tup, os_lst, os_op, os_ite, os_call, os_not, os_mm, os_get, os_lc, os_dc, os_sortk, os_callk, ev_if0, ev_if1, ev_get, b_ok, t_ok, ab_ok, op_0, op_1, call_1, see, seeO, setS, setTg, setAll, startR, List.getElem?_cons_zero, List.getElem?_cons_succ, List.getElem?_nil, List.set_cons_zero, List.set_cons_succ, List.set_nil, List.length_cons, List.length_nil, List.map_cons, List.map_nil, List.cons_append, List.nil_append, List.replicate, Option.map_some, List.tail_cons, prim, callR, giveOf, putBack, kd_0, kd_1, kd_2, kd_3, kd_4, kd_5, kd_6, kd_7, kd_8, kd_9, kd_10, kd_11, kd_12, kd_13, kd_14, kd_15, kd_16, kd_17, kd_18, kd_19, kd_20, kd_21, kd_22, kd_23, hlc, List.map_id', pLen, ← hk]
    refine ⟨[some (.list rows), some (.list f), some d, none], [some (.list rows), some (.list (ins d f)), some d, none], rfl, .inl ?_, ins d f, some d, rfl, ins_srt h1 (fun z hz => lt_tot (hfT z hz) hdT fun e => hdn (by rw [← e]; exact hz)), ?_⟩
    · rw [insS, ex_1, ex_exp, hmm]
      rfl
    · unfold ins
      refine List.perm_middle.trans ?_
      rw [List.take_append_drop]
      exact (h2.cons d).trans (List.perm_append_singleton d pre).symm
  refine ⟨f, ?_, h1, h2⟩
  have s0 : exS pgm C (.asgO 1 (.lst [])) (startR fi_13 [.list rows]) = .nx [some (.list rows), some (.list []), none, none] := by
    show exS pgm C (.asgO 1 (.lst [])) [some (.list rows), none, none, none] = _
    simp only [ex_0, ex_1, ex_asg, ex_asgO, ex_setI, ex_aug, ex_augI, ex_exp, ex_ite, ex_ret, ex_retO, ex_retN, ev_non, ev_bl, ev_int, ev_str, ew_var, ew_mv, ev_tup, ev_lst, ev_op, ev_not, ev_ite, ev_call, ev_dic, ev_and0, ev_and1, ev_or0, ev_or1, ev_es0, ev_es1, ev_os0, ev_osO, ev_osB, os_non, os_bl, os_int, os_str, os_var, os_mv, os_tup, os_lst, os_op, os_ite, os_call, os_not, os_mm, os_get, os_lc, os_dc, os_sortk, os_callk, ev_if0, ev_if1, ev_mm, ev_get, b_ok, t_ok, ab_ok, op_0, op_1, call_1, see, seeO, setS, setTg, setAll, startR, List.getElem?_cons_zero, List.getElem?_cons_succ, List.getElem?_nil, List.set_cons_zero, List.set_cons_succ, List.set_nil, List.length_cons, List.length_nil, List.map_cons, List.map_nil, List.cons_append, List.nil_append, List.replicate, Option.map_some, List.tail_cons, prim, callR, giveOf, putBack, kd_0, kd_1, kd_2, kd_3, kd_4, kd_5, kd_6, kd_7, kd_8, kd_9, kd_10, kd_11, kd_12, kd_13, kd_14, kd_15, kd_16, kd_17, kd_18, kd_19, kd_20, kd_21, kd_22, kd_23, Nat.reduceAdd, ft0, ft1, ft2, ft3, ft4, ft5, ft6, ft7, ft8, ft9, ft10, if_true, isTopD]
  have sf : exS pgm C (.for_ (.nm 2) .each [(.var 0)] insS) [some (.list rows), some (.list []), none, none] = .nx [some (.list rows), some (.list f), o2, none] := by
    rw [ex_for (os := [.inl (.list rows)]) (ρ1 := [some (.list rows), some (.list []), none, none]) (ds := [.list rows]) (items := rows) (by simp only [ex_0, ex_1, ex_asg, ex_asgO, ex_setI, ex_aug, ex_augI, ex_exp, ex_ite, ex_ret, ex_retO, ex_retN, ev_non, ev_bl, ev_int, ev_str, ew_var, ew_mv, ev_tup, ev_lst, ev_op, ev_not, ev_ite, ev_call, ev_dic, ev_and0, ev_and1, ev_or0, ev_or1, ev_es0, ev_es1, ev_os0, ev_osO, ev_osB, os_non, os_bl, os_int, os_str, os_var, os_mv, os_tup, os_lst, os_op, os_ite, os_call, os_not, os_mm, os_get, os_lc, os_dc, os_sortk, os_callk, ev_if0, ev_if1, ev_mm, ev_get, b_ok, t_ok, ab_ok, op_0, op_1, call_1, see, seeO, setS, setTg, setAll, startR, List.getElem?_cons_zero, List.getElem?_cons_succ, List.getElem?_nil, List.set_cons_zero, List.set_cons_succ, List.set_nil, List.length_cons, List.length_nil, List.map_cons, List.map_nil, List.cons_append, List.nil_append, List.replicate, Option.map_some, List.tail_cons, prim, callR, giveOf, putBack, kd_0, kd_1, kd_2, kd_3, kd_4, kd_5, kd_6, kd_7, kd_8, kd_9, kd_10, kd_11, kd_12, kd_13, kd_14, kd_15, kd_16, kd_17, kd_18, kd_19, kd_20, kd_21, kd_22, kd_23]) rfl rfl]
    show (forL (fun r => exSs pgm C insS r) _ _ [some (.list rows), some (.list []), none, none]).map id = _
    rw [hf]
    rfl
  rw [show fi_13.body = [(.asgO 1 (.lst [])), (.for_ (.nm 2) .each [(.var 0)] insS), (.retO 1)] from rfl]
  simp only [ex_1, s0, sf]
  simp only [ex_0, ex_1, ex_asg, ex_asgO, ex_setI, ex_aug, ex_augI, ex_exp, ex_ite, ex_ret, ex_retO, ex_retN, ev_non, ev_bl, ev_int, ev_str, ew_var, ew_mv, ev_tup, ev_lst, ev_op, ev_not, ev_ite, ev_call, ev_dic, ev_and0, ev_and1, ev_or0, ev_or1, ev_es0, ev_es1, ev_os0, ev_osO, ev_osB, os_non, os_bl, os_int, os_str, os_var, os_mv, os_tup, os_lst, os_op, os_ite, os_call, os_not, os_mm, os_get, os_lc, os_dc, os_sortk, os_callk, ev_if0, ev_if1, ev_mm, ev_get, b_ok, t_ok, ab_ok, op_0, op_1, call_1, see, seeO, setS, setTg, setAll, startR, List.getElem?_cons_zero, List.getElem?_cons_succ, List.getElem?_nil, List.set_cons_zero, List.set_cons_succ, List.set_nil, List.length_cons, List.length_nil, List.map_cons, List.map_nil, List.cons_append, List.nil_append, List.replicate, Option.map_some, List.tail_cons, prim, callR, giveOf, putBack, kd_0, kd_1, kd_2, kd_3, kd_4, kd_5, kd_6, kd_7, kd_8, kd_9, kd_10, kd_11, kd_12, kd_13, kd_14, kd_15, kd_16, kd_17, kd_18, kd_19, kd_20, kd_21, kd_22, kd_23, endOf, givenOf]
theorem keys_len {l : List (D × Int)} : (l.map (·.1)).length = l.length := List.length_map _
/-- rows of the keys out with their numbers -/
theorem perm_back {l : List (D × Int)} {out : List D} {g : D → Int} (hp : out.Perm (l.map (·.1))) (hg : ∀ p ∈ l, g p.1 = p.2) : (out.map fun k => (k, g k)).Perm l := by
  have := hp.map fun k => (k, g k)
  rw [List.map_map] at this
  have e : l.map ((fun k => (k, g k)) ∘ fun p => p.1) = l := map_id2 fun p hp => Prod.ext rfl (hg p hp)
  rwa [e] at this
theorem normal_body {C : Orc} {P : D → Prop} {t : Ty} {q : Nat} (K : Kf P t q) {l : List (D × Int)} (hP : ∀ p ∈ l, P p.1) (nd : (l.map (·.1)).Nodup) (pos : ∀ p ∈ l, 1 ≤ p.2) (hl : l.length ≤ 1000)
    (k13 : ∀ {rows : List D}, (∀ x ∈ rows, isT t x = true) → rows.Nodup → rows.length ≤ 1000 → ∃ out : List D, C 13 [.list rows] = .ret (.list out) [] ∧ Srt out ∧ out.Perm rows) :
    ∃ s : List (D × Int), endOf pgm 14 (exSs pgm C fi_14.body (startR fi_14 [.dict (bk l)])) = .ret (enc s) [] ∧ s.Perm l ∧ Srt (s.map (·.1)) := by
  have kT : ∀ x ∈ l.map (·.1), isT t x = true := fun x hx => by
    obtain ⟨p, hp, rfl⟩ := List.mem_map.mp hx
    exact K.ty _ (hP p hp)
  obtain ⟨out, o1, o2, o3⟩ := k13 kT nd (by rw [keys_len]; exact hl)
  have ol : out.length ≤ 1000 := by rw [o3.length_eq, keys_len]; exact hl
  obtain ⟨g, hg⟩ : ∃ g : D → Int, g = fun k => (getL k l).getD 0 := ⟨_, rfl⟩
  have gv : ∀ p ∈ l, g p.1 = p.2 := fun p hp => by rw [hg]; show (getL p.1 l).getD 0 = p.2; rw [get_of nd (show (p.1, p.2) ∈ l from hp)]; rfl
  have at_ : ∀ k ∈ out, pIdx [.dict (bk l), k] = some (.int (g k)) ∧ 1 ≤ g k := fun k hk => by
    obtain ⟨p, hp, rfl⟩ := List.mem_map.mp (o3.mem_iff.mp hk)
    rw [gv p hp]
    exact ⟨bk_idx K (hP p hp) hP nd hp, pos p hp⟩
  refine ⟨out.map fun k => (k, g k), ?_, perm_back o3 gv, by rw [List.map_map]; exact (map_id_of (f := (fun x : D × Int => x.1) ∘ fun k => (k, g k)) (l := out) fun _ _ => rfl).symm ▸ o2⟩
  have lk : (bk l).map (·.1) = l.map (·.1) := by
    unfold bk
    rw [List.map_map]; rfl
  have Ll : (l.map (·.1)).length ≤ 1000 := by rw [keys_len]; exact hl
  generalize hkv : bk l = kvs at *
  generalize hks : l.map (·.1) = ks at *
  have l1 : evE pgm C (.lc (.var 2) (.nm 2) .eachD [(.var 0)] [] [2]) [some (.dict kvs), none, none] = .ok (.list (ks.map fun x => x)) [some (.dict kvs), none, none] := by
    refine lc_all (os := [.inl (.dict kvs)]) (ds := [.dict kvs]) (items := ks) (by simp only [ex_0, ex_1, ex_asg, ex_asgO, ex_setI, ex_aug, ex_augI, ex_exp, ex_ite, ex_ret, ex_retO, ex_retN, ev_non, ev_bl, ev_int, ev_str, ew_var, ew_mv, ev_tup, ev_lst, ev_op, ev_not, ev_ite, ev_call, ev_dic, ev_and0, ev_and1, ev_or0, ev_or1, ev_es0, ev_es1, ev_os0, ev_osO, ev_osB, os_non, os_bl, os_int, os_str, os_var, os_mv, os_tup, os_lst, os_op, os_ite, os_call, os_not, os_mm, os_get, os_lc, os_dc, os_sortk, os_callk, ev_if0, ev_if1, ev_mm, ev_get, b_ok, t_ok, ab_ok, op_0, op_1, call_1, see, seeO, setS, setTg, setAll, startR, List.getElem?_cons_zero, List.getElem?_cons_succ, List.getElem?_nil, List.set_cons_zero, List.set_cons_succ, List.set_nil, List.length_cons, List.length_nil, List.map_cons, List.map_nil, List.cons_append, List.nil_append, List.replicate, Option.map_some, List.tail_cons, prim, callR, giveOf, putBack, kd_0, kd_1, kd_2, kd_3, kd_4, kd_5, kd_6, kd_7, kd_8, kd_9, kd_10, kd_11, kd_12, kd_13, kd_14, kd_15, kd_16, kd_17, kd_18, kd_19, kd_20, kd_21, kd_22, kd_23]) rfl (by rw [← lk]; rfl) (fun d hd => ⟨[some (.dict kvs), none, some d], rfl, rfl, ?_⟩) rfl (by unfold sizeLine; omega)
    simp only [ex_0, ex_1, ex_asg, ex_asgO, ex_setI, ex_aug, ex_augI, ex_exp, ex_ite, ex_ret, ex_retO, ex_retN, ev_non, ev_bl, ev_int, ev_str, ew_var, ew_mv, ev_tup, ev_lst, ev_op, ev_not, ev_ite, ev_call, ev_dic, ev_and0, ev_and1, ev_or0, ev_or1, ev_es0, ev_es1, ev_os0, ev_osO, ev_osB, os_non, os_bl, os_int, os_str, os_var, os_mv, os_tup, os_lst, os_op, os_ite, os_call, os_not, os_mm, os_get, os_lc, os_dc, os_sortk, os_callk, ev_if0, ev_if1, ev_mm, ev_get, b_ok, t_ok, ab_ok, op_0, op_1, call_1, see, seeO, setS, setTg, setAll, startR, List.getElem?_cons_zero, List.getElem?_cons_succ, List.getElem?_nil, List.set_cons_zero, List.set_cons_succ, List.set_nil, List.length_cons, List.length_nil, List.map_cons, List.map_nil, List.cons_append, List.nil_append, List.replicate, Option.map_some, List.tail_cons, prim, callR, giveOf, putBack, kd_0, kd_1, kd_2, kd_3, kd_4, kd_5, kd_6, kd_7, kd_8, kd_9, kd_10, kd_11, kd_12, kd_13, kd_14, kd_15, kd_16, kd_17, kd_18, kd_19, kd_20, kd_21, kd_22, kd_23]
  have l2 : evE pgm C (.lc (.tup [(.var 1), (.op .idx [(.var 0), (.var 1)])]) (.nm 1) .each [(.call 13 [(.lc (.var 2) (.nm 2) .eachD [(.var 0)] [] [2])])] [(.op .gt [(.op .idx [(.var 0), (.var 1)]), (.int 0)])] [1]) [some (.dict kvs), none, none] =
      .ok (.list ((out.filter fun _ => true).map fun k => encP (k, g k))) [some (.dict kvs), none, none] := by
    refine lc_pure (os := [.inl (.list out)]) (ds := [.list out]) (items := out) (by simp only [ex_0, ex_1, ex_asg, ex_asgO, ex_setI, ex_aug, ex_augI, ex_exp, ex_ite, ex_ret, ex_retO, ex_retN, ev_non, ev_bl, ev_int, ev_str, ew_var, ew_mv, ev_tup, ev_lst, ev_op, ev_not, ev_ite, ev_call, ev_dic, ev_and0, ev_and1, ev_or0, ev_or1, ev_es0, ev_es1, ev_os0, ev_osO, ev_osB, os_non, os_bl, os_int, os_str, os_var, os_mv, os_tup, os_lst, os_op, os_ite, os_call, os_not, os_mm, os_get, os_lc, os_dc, os_sortk, os_callk, ev_if0, ev_if1, ev_mm, ev_get, b_ok, t_ok, ab_ok, op_0, op_1, call_1, see, seeO, setS, setTg, setAll, startR, List.getElem?_cons_zero, List.getElem?_cons_succ, List.getElem?_nil, List.set_cons_zero, List.set_cons_succ, List.set_nil, List.length_cons, List.length_nil, List.map_cons, List.map_nil, List.cons_append, List.nil_append, List.replicate, Option.map_some, List.tail_cons, prim, callR, giveOf, putBack, kd_0, kd_1, kd_2, kd_3, kd_4, kd_5, kd_6, kd_7, kd_8, kd_9, kd_10, kd_11, kd_12, kd_13, kd_14, kd_15, kd_16, kd_17, kd_18, kd_19, kd_20, kd_21, kd_22, kd_23, l1, List.map_id', o1]) rfl rfl (fun d hd => ⟨[some (.dict kvs), some d, none], rfl, rfl, ?_, fun _ => ?_⟩) rfl (by unfold sizeLine; omega)
    · obtain ⟨a1, a2⟩ := at_ d hd
      have : decide ((0 : Int) < g d) = true := decide_eq_true (by omega)
      simp only [ex_0, ex_1, ex_asg, ex_asgO, ex_setI, ex_aug, ex_augI, ex_exp, ex_ite, ex_ret, ex_retO, ex_retN, ev_non, ev_bl, ev_int, ev_str, ew_var, ew_mv, ev_tup, ev_lst, ev_op, ev_not, ev_ite, ev_call, ev_dic, ev_and0, ev_and1, ev_or0, ev_or1, ev_es0, ev_es1, ev_os0, ev_osO, ev_osB, os_non, os_bl, os_int, os_str, os_var, os_mv, os_tup, os_lst, os_op, os_ite, os_call, os_not, os_mm, os_get, os_lc, os_dc, os_sortk, os_callk, ev_if0, ev_if1, ev_mm, ev_get, b_ok, t_ok, ab_ok, op_0, op_1, call_1, see, seeO, setS, setTg, setAll, startR, List.getElem?_cons_zero, List.getElem?_cons_succ, List.getElem?_nil, List.set_cons_zero, List.set_cons_succ, List.set_nil, List.length_cons, List.length_nil, List.map_cons, List.map_nil, List.cons_append, List.nil_append, List.replicate, Option.map_some, List.tail_cons, prim, callR, giveOf, putBack, kd_0, kd_1, kd_2, kd_3, kd_4, kd_5, kd_6, kd_7, kd_8, kd_9, kd_10, kd_11, kd_12, kd_13, kd_14, kd_15, kd_16, kd_17, kd_18, kd_19, kd_20, kd_21, kd_22, kd_23, a1, pGt_int, this]
    · obtain ⟨a1, a2⟩ := at_ d hd
      simp only [ex_0, ex_1, ex_asg, ex_asgO, ex_setI, ex_aug, ex_augI, ex_exp, ex_ite, ex_ret, ex_retO, ex_retN, ev_non, ev_bl, ev_int, ev_str, ew_var, ew_mv, ev_tup, ev_lst, ev_op, ev_not, ev_ite, ev_call, ev_dic, ev_and0, ev_and1, ev_or0, ev_or1, ev_es0, ev_es1, ev_os0, ev_osO, ev_osB, os_non, os_bl, os_int, os_str, os_var, os_mv, os_tup, os_lst, os_op, os_ite, os_call, os_not, os_mm, os_get, os_lc, os_dc, os_sortk, os_callk, ev_if0, ev_if1, ev_mm, ev_get, b_ok, t_ok, ab_ok, op_0, op_1, call_1, see, seeO, setS, setTg, setAll, startR, List.getElem?_cons_zero, List.getElem?_cons_succ, List.getElem?_nil, List.set_cons_zero, List.set_cons_succ, List.set_nil, List.length_cons, List.length_nil, List.map_cons, List.map_nil, List.cons_append, List.nil_append, List.replicate, Option.map_some, List.tail_cons, prim, callR, giveOf, putBack, kd_0, kd_1, kd_2, kd_3, kd_4, kd_5, kd_6, kd_7, kd_8, kd_9, kd_10, kd_11, kd_12, kd_13, kd_14, kd_15, kd_16, kd_17, kd_18, kd_19, kd_20, kd_21, kd_22, kd_23, a1, Nat.reduceAdd, ft0, ft1, ft2, ft3, ft4, ft5, ft6, ft7, ft8, ft9, ft10, if_true]
      rfl
  have e3 : (out.filter fun _ => true).map (fun k => encP (k, g k)) = (out.map fun k => (k, g k)).map encP := by
    rw [List.filter_eq_self.mpr fun _ _ => rfl, List.map_map]; rfl
  rw [e3] at l2
  have fl : flatD (enc (out.map fun k => (k, g k))) = true := by
    refine flat_T (.seq (.pair t .int)) _ (isT_mk_seq fun x hx => ?_)
    obtain ⟨p, hp, rfl⟩ := List.mem_map.mp hx
    obtain ⟨k, hk, rfl⟩ := List.mem_map.mp hp
    exact encP_T (kT k (o3.mem_iff.mp hk))
  have l3 : evE pgm C (.op .tup1 [(.lc (.tup [(.var 1), (.op .idx [(.var 0), (.var 1)])]) (.nm 1) .each [(.call 13 [(.lc (.var 2) (.nm 2) .eachD [(.var 0)] [] [2])])] [(.op .gt [(.op .idx [(.var 0), (.var 1)]), (.int 0)])] [1])]) [some (.dict kvs), none, none] = .ok (enc (out.map fun k => (k, g k))) [some (.dict kvs), none, none] := by
    generalize (out.map fun k => (k, g k)) = s at l2 fl ⊢
    simp only [ex_0, ex_1, ex_asg, ex_asgO, ex_setI, ex_aug, ex_augI, ex_exp, ex_ite, ex_ret, ex_retO, ex_retN, ev_non, ev_bl, ev_int, ev_str, ew_var, ew_mv, ev_tup, ev_lst, ev_op, ev_not, ev_ite, ev_call, ev_dic, ev_and0, ev_and1, ev_or0, ev_or1, ev_es0, ev_es1, ev_os0, ev_osO, ev_osB, os_non, os_bl, os_int, os_str, os_var, os_mv, os_tup, os_lst, os_op, os_ite, os_call, os_not, os_mm, os_get, os_lc, os_dc, os_sortk, os_callk, ev_if0, ev_if1, ev_mm, ev_get, b_ok, t_ok, ab_ok, op_0, op_1, call_1, see, seeO, setS, setTg, setAll, startR, List.getElem?_cons_zero, List.getElem?_cons_succ, List.getElem?_nil, List.set_cons_zero, List.set_cons_succ, List.set_nil, List.length_cons, List.length_nil, List.map_cons, List.map_nil, List.cons_append, List.nil_append, List.replicate, Option.map_some, List.tail_cons, prim, callR, giveOf, putBack, kd_0, kd_1, kd_2, kd_3, kd_4, kd_5, kd_6, kd_7, kd_8, kd_9, kd_10, kd_11, kd_12, kd_13, kd_14, kd_15, kd_16, kd_17, kd_18, kd_19, kd_20, kd_21, kd_22, kd_23, l2, pTup1]
    rfl
  have l4 := lk_of (i := 0) (hs := []) (ρ := [some (.dict kvs), none, none]) (d0 := .dict kvs) rfl l3 fl
  show endOf pgm 14 (exSs pgm C [(.ret (.lk 0 [] (.op .tup1 [(.lc (.tup [(.var 1), (.op .idx [(.var 0), (.var 1)])]) (.nm 1) .each [(.call 13 [(.lc (.var 2) (.nm 2) .eachD [(.var 0)] [] [2])])] [(.op .gt [(.op .idx [(.var 0), (.var 1)]), (.int 0)])] [1])])))] [some (.dict kvs), none, none]) = _
  rw [ex_1, ex_ret, l4, t_ok]
  rfl
theorem c_normal (n : Nat) {P : D → Prop} {t : Ty} {q : Nat} (K : Kf P t q) {l : List (D × Int)} (hP : ∀ p ∈ l, P p.1) (nd : (l.map (·.1)).Nodup) (pos : ∀ p ∈ l, 1 ≤ p.2) (hl : l.length ≤ 1000) : ∃ s : List (D × Int), callF pgm (n + 2) 14 [.dict (bk l)] = .ret (enc s) [] ∧ s.Perm l ∧ Srt (s.map (·.1)) := by
  rw [callF_at (fi := fi_14) rfl rfl]
  exact normal_body K hP nd pos hl fun hT hn hl => c_sorted n (Nat.le_trans K.dp (by decide)) hT hn hl
/-! ### monomials, polynomials -/
theorem kf_str : Kf (fun x => isT .str x = true) .str 1 := ⟨fun x hx => hx, by decide, fun x hx => by obtain ⟨s, rfl⟩ := isT_str hx; rfl, by decide⟩
/-- a monomial of at most n tokens, its exponents together at most e -/
structure MonoL (n : Nat) (e : Int) (a : List (D × Int)) : Prop where
  can : Can a
  ty : ∀ p ∈ a, isT .str p.1 = true
  len : a.length ≤ n
  tot : lin (fun _ => 1) a ≤ e
def MonoC (n : Nat) (e : Int) (x : D) : Prop := ∃ a, x = enc a ∧ MonoL n e a
structure PolyC (n : Nat) (e : Int) (N : Nat) (S : Int) (p : List (D × Int)) : Prop where
  can : Can p
  keys : ∀ q ∈ p, MonoC n e q.1
  len : p.length ≤ N
  tot : lin (fun _ => 1) p ≤ S
theorem MonoC.ty {n : Nat} {e : Int} {x : D} (h : MonoC n e x) : isT MT x = true := by
  obtain ⟨a, rfl, h⟩ := h
  refine isT_mk_seq fun y hy => ?_
  obtain ⟨p, hp, rfl⟩ := List.mem_map.mp hy
  exact encP_T (h.ty p hp)
theorem kf_mono {n : Nat} {e : Int} : Kf (MonoC n e) MT 2 := ⟨fun x hx => hx.ty, by decide, fun x hx => by
  have := hx.ty
  obtain ⟨a, rfl, _⟩ := hx
  exact keyKd_T this (by decide), by decide⟩
theorem lin_le {c : Int} : ∀ {l : List (D × Int)}, (∀ p ∈ l, p.2 ≤ c) → lin (fun _ => 1) l ≤ c * (l.length : Int)
  | [], _ => by rw [lin_nil]; simp
  | p :: l, h => by
    have h1 := h p (by simp)
    have h2 := lin_le (l := l) fun q hq => h q (by simp [hq])
    rw [lin_cons, List.length_cons, Int.natCast_add, Int.mul_add]
    simp only [Int.mul_one, Int.cast_ofNat_Int]
    omega
abbrev monS : List S := [(.setI 2 (.call 12 [(.own 0)]) (.op .add [(.int 1), (.call 10 [(.own 0), (.op .idx [(.lst [(.int 1), (.int 3), (.int 12)]), (.call 10 [(.own 0), (.int 3)])])])]))]
theorem mon_step {C : Orc} (take : Take C) (k12 : ∀ {st : D}, isSt st → ∃ (x st' : D), C 12 [st] = .ret x [st'] ∧ isSt st' ∧ isT .str x = true) {st : D} (hs : isSt st) {l : List (D × Int)} (hT : ∀ p ∈ l, isT .str p.1 = true) (hl : l.length ≤ 100) {A1 A3 A4 A5 : Option D} :
    ∃ (st' x : D) (v : Int), exSs pgm C monS [some st, A1, some (.dict (bk l)), A3, A4, A5] = .nx [some st', A1, some (.dict (bk (putL x v l))), A3, A4, A5] ∧ isSt st' ∧ isT .str x = true ∧ 1 ≤ v ∧ v ≤ 12 := by
  obtain ⟨v1, s1, t1, hs1, v1a, v1b⟩ := take hs (lim := 3) (by decide) (by decide)
  obtain ⟨m, im, m1, m2⟩ := pIdx_int (ds := [.int 1, .int 3, .int 12]) (v := v1) (P := fun a => 1 ≤ a ∧ a ≤ 12) v1a (by simpa using v1b) (by
    intro d hd
    simp only [List.mem_cons, List.not_mem_nil, or_false] at hd
    rcases hd with rfl | rfl | rfl
    all_goals exact ⟨_, rfl, by omega, by omega⟩)
  obtain ⟨v2, s2, t2, hs2, v2a, v2b⟩ := take hs1 (lim := m) (by omega) (by omega)
  obtain ⟨x, s3, t3, hs3, hx⟩ := k12 hs2
  have pt := bk_put kf_str hx hT (by omega) (1 + v2)
  refine ⟨s3, x, 1 + v2, ?_, hs3, hx, by omega, by omega⟩
  generalize bk l = kvs at *
  generalize bk (putL x (1 + v2) l) = kvs2 at *
  simp only [ex_0, ex_1, ex_asg, ex_asgO, ex_setI, ex_aug, ex_augI, ex_exp, ex_ite, ex_ret, ex_retO, ex_retN, ev_non, ev_bl, ev_int, ev_str, ew_var, ew_mv, ev_tup, ev_lst, ev_op, ev_not, ev_ite, ev_call, ev_dic, ev_and0, ev_and1, ev_or0, ev_or1, ev_es0, ev_es1, ev_os0, ev_osO, ev_osB, os_non, os_bl, os_int, os_str, os_var, os_mv, os_tup, os_lst, os_op, os_ite, os_call, os_not, os_mm, os_get, os_lc, os_dc, os_sortk, os_callk, ev_if0, ev_if1, ev_mm, ev_get, b_ok, t_ok, ab_ok, op_0, op_1, call_1, see, seeO, setS, setTg, setAll, startR, List.getElem?_cons_zero, List.getElem?_cons_succ, List.getElem?_nil, List.set_cons_zero, List.set_cons_succ, List.set_nil, List.length_cons, List.length_nil, List.map_cons, List.map_nil, List.cons_append, List.nil_append, List.replicate, Option.map_some, List.tail_cons, prim, callR, giveOf, putBack, kd_0, kd_1, kd_2, kd_3, kd_4, kd_5, kd_6, kd_7, kd_8, kd_9, kd_10, kd_11, kd_12, kd_13, kd_14, kd_15, kd_16, kd_17, kd_18, kd_19, kd_20, kd_21, kd_22, kd_23, Nat.reduceAdd, ft0, ft1, ft2, ft3, ft4, ft5, ft6, ft7, ft8, ft9, ft10, if_true, t1, im, t2, pAdd_ii, t3, pt]
theorem c_monomial (n : Nat) {st : D} (hs : isSt st) : ∃ (a : List (D × Int)) (st' : D), callF pgm (n + 4) 15 [st, .int 3] = .ret (enc a) [st'] ∧ isSt st' ∧ MonoL 3 36 a := by
  rw [callF_at (fi := fi_15) rfl rfl]
  have take : Take (callF pgm (n + 3)) := c_take (n + 1)
  have k12 := fun {st : D} (hs : isSt st) => c_token n hs
  have k13 := fun {rows : List D} (hT : ∀ x ∈ rows, isT .str x = true) (hn : rows.Nodup) (hl : rows.length ≤ 1000) => c_sorted (n + 2) (t := .str) (by decide) hT hn hl
  generalize callF pgm (n + 3) = C at take k12 k13
  obtain ⟨v, s1, t1, hs1, v0, v1⟩ := take hs (lim := 4) (by decide) (by decide)
  obtain ⟨j, rfl⟩ := Int.eq_ofNat_of_zero_le v0
  obtain ⟨I, hI⟩ : ∃ I, I = (List.range j).map fun (k : Nat) => PyData.int (k : Int) := ⟨_, rfl⟩
  have Il : I.length = j := by rw [hI, List.length_map, List.length_range]
  obtain ⟨ρ', hf, st', l, A3, rfl, hs', h1, h2, h3, h4⟩ : ∃ ρ', forL (fun r => exSs pgm C monS r) (.nm 3) I [some s1, some (.int 3), some (.dict []), none, none, none] = .nx ρ' ∧
      ∃ (st' : D) (l : List (D × Int)) (A3 : Option D), ρ' = [some st', some (.int 3), some (.dict (bk l)), A3, none, none] ∧ isSt st' ∧ (∀ p ∈ l, isT .str p.1 = true) ∧ (l.map (·.1)).Nodup ∧ l.length ≤ I.length ∧ ∀ p ∈ l, 1 ≤ p.2 ∧ p.2 ≤ 12 := by
    refine forL_nx (fun pre ρ => ∃ (st' : D) (l : List (D × Int)) (A3 : Option D), ρ = [some st', some (.int 3), some (.dict (bk l)), A3, none, none] ∧ isSt st' ∧ (∀ p ∈ l, isT .str p.1 = true) ∧ (l.map (·.1)).Nodup ∧ l.length ≤ pre.length ∧ ∀ p ∈ l, 1 ≤ p.2 ∧ p.2 ≤ 12) _ _ ⟨s1, [], none, rfl, hs1, by simp, .nil, by simp, by simp⟩ ?_
    rintro pre d post ρ hd ⟨st1, l, A3, rfl, hs1, h1, h2, h3, h4⟩
    have hpl : pre.length < 4 := by
      have := congrArg List.length hd
      rw [List.length_append, List.length_cons] at this
      omega
    obtain ⟨s2, x, w, e, hs2, hx, w1, w2⟩ := mon_step take k12 hs1 h1 (by omega) (A1 := some (.int 3)) (A3 := some d) (A4 := none) (A5 := none)
    obtain ⟨q1, q2, q3, q4, q5⟩ := put_keys (k := x) (v := w) (l := l)
    refine ⟨_, _, rfl, .inl e, s2, putL x w l, some d, rfl, hs2, fun p hp => ?_, q2 h2, by rw [List.length_append, List.length_singleton]; omega, fun p hp => ?_⟩
    · rcases q5 p hp with z | z
      · exact h1 p z
      · rw [z]; exact hx
    · rcases q5 p hp with z | z
      · exact h4 p z
      · rw [z]; exact ⟨w1, w2⟩
  have hl : l.length ≤ 3 := by omega
  have kT : ∀ x ∈ l.map (·.1), isT .str x = true := fun x hx => by
    obtain ⟨p, hp, rfl⟩ := List.mem_map.mp hx
    exact h1 p hp
  obtain ⟨out, o1, o2, o3⟩ := k13 kT h2 (by rw [keys_len]; omega)
  have ol : out.length ≤ 3 := by rw [o3.length_eq, keys_len]; exact hl
  obtain ⟨g, hg⟩ : ∃ g : D → Int, g = fun k => (getL k l).getD 0 := ⟨_, rfl⟩
  have gv : ∀ p ∈ l, g p.1 = p.2 := fun p hp => by rw [hg]; show (getL p.1 l).getD 0 = p.2; rw [get_of h2 (show (p.1, p.2) ∈ l from hp)]; rfl
  have at_ : ∀ k ∈ out, pIdx [.dict (bk l), k] = some (.int (g k)) := fun k hk => by
    obtain ⟨p, hp, rfl⟩ := List.mem_map.mp (o3.mem_iff.mp hk)
    rw [gv p hp]
    exact bk_idx kf_str (h1 p hp) h1 h2 hp
  have pm := perm_back o3 gv
  have mem : ∀ p ∈ out.map fun k => (k, g k), p ∈ l := fun p hp => pm.mem_iff.mp hp
  refine ⟨out.map fun k => (k, g k), st', ?_, hs', ⟨by rw [List.map_map]; exact (map_id_of (f := (fun x : D × Int => x.1) ∘ fun k => (k, g k)) (l := out) fun _ _ => rfl).symm ▸ o2, fun p hp => (h4 p (mem p hp)).1⟩, fun p hp => h1 p (mem p hp), by rw [List.length_map]; exact ol, ?_⟩
  · have lkk : (bk l).map (·.1) = l.map (·.1) := by
      unfold bk
      rw [List.map_map]; rfl
    have Ll : (l.map (·.1)).length ≤ 3 := by rw [keys_len]; exact hl
    generalize hkv : bk l = kvs at *
    generalize hks : l.map (·.1) = ks at *
    have l1 : evE pgm C (.lc (.var 5) (.nm 5) .eachD [(.var 2)] [] [5]) [some st', some (.int 3), some (.dict kvs), A3, none, none] = .ok (.list (ks.map fun x => x)) [some st', some (.int 3), some (.dict kvs), A3, none, none] := by
      refine lc_all (os := [.inl (.dict kvs)]) (ds := [.dict kvs]) (items := ks) (by simp only [ex_0, ex_1, ex_asg, ex_asgO, ex_setI, ex_aug, ex_augI, ex_exp, ex_ite, ex_ret, ex_retO, ex_retN, ev_non, ev_bl, ev_int, ev_str, ew_var, ew_mv, ev_tup, ev_lst, ev_op, ev_not, ev_ite, ev_call, ev_dic, ev_and0, ev_and1, ev_or0, ev_or1, ev_es0, ev_es1, ev_os0, ev_osO, ev_osB, os_non, os_bl, os_int, os_str, os_var, os_mv, os_tup, os_lst, os_op, os_ite, os_call, os_not, os_mm, os_get, os_lc, os_dc, os_sortk, os_callk, ev_if0, ev_if1, ev_mm, ev_get, b_ok, t_ok, ab_ok, op_0, op_1, call_1, see, seeO, setS, setTg, setAll, startR, List.getElem?_cons_zero, List.getElem?_cons_succ, List.getElem?_nil, List.set_cons_zero, List.set_cons_succ, List.set_nil, List.length_cons, List.length_nil, List.map_cons, List.map_nil, List.cons_append, List.nil_append, List.replicate, Option.map_some, List.tail_cons, prim, callR, giveOf, putBack, kd_0, kd_1, kd_2, kd_3, kd_4, kd_5, kd_6, kd_7, kd_8, kd_9, kd_10, kd_11, kd_12, kd_13, kd_14, kd_15, kd_16, kd_17, kd_18, kd_19, kd_20, kd_21, kd_22, kd_23]) rfl (by rw [← lkk]; rfl) (fun d hd => ⟨[some st', some (.int 3), some (.dict kvs), A3, none, some d], rfl, rfl, ?_⟩) rfl (by unfold sizeLine; omega)
      simp only [ex_0, ex_1, ex_asg, ex_asgO, ex_setI, ex_aug, ex_augI, ex_exp, ex_ite, ex_ret, ex_retO, ex_retN, ev_non, ev_bl, ev_int, ev_str, ew_var, ew_mv, ev_tup, ev_lst, ev_op, ev_not, ev_ite, ev_call, ev_dic, ev_and0, ev_and1, ev_or0, ev_or1, ev_es0, ev_es1, ev_os0, ev_osO, ev_osB, os_non, os_bl, os_int, os_str, os_var, os_mv, os_tup, os_lst, os_op, os_ite, os_call, os_not, os_mm, os_get, os_lc, os_dc, os_sortk, os_callk, ev_if0, ev_if1, ev_mm, ev_get, b_ok, t_ok, ab_ok, op_0, op_1, call_1, see, seeO, setS, setTg, setAll, startR, List.getElem?_cons_zero, List.getElem?_cons_succ, List.getElem?_nil, List.set_cons_zero, List.set_cons_succ, List.set_nil, List.length_cons, List.length_nil, List.map_cons, List.map_nil, List.cons_append, List.nil_append, List.replicate, Option.map_some, List.tail_cons, prim, callR, giveOf, putBack, kd_0, kd_1, kd_2, kd_3, kd_4, kd_5, kd_6, kd_7, kd_8, kd_9, kd_10, kd_11, kd_12, kd_13, kd_14, kd_15, kd_16, kd_17, kd_18, kd_19, kd_20, kd_21, kd_22, kd_23]
    have l2 : evE pgm C (.lc (.tup [(.var 4), (.op .idx [(.var 2), (.var 4)])]) (.nm 4) .each [(.call 13 [(.lc (.var 5) (.nm 5) .eachD [(.var 2)] [] [5])])] [] [4]) [some st', some (.int 3), some (.dict kvs), A3, none, none] =
        .ok (.list (out.map fun k => encP (k, g k))) [some st', some (.int 3), some (.dict kvs), A3, none, none] := by
      refine lc_all (os := [.inl (.list out)]) (ds := [.list out]) (items := out) (by simp only [ex_0, ex_1, ex_asg, ex_asgO, ex_setI, ex_aug, ex_augI, ex_exp, ex_ite, ex_ret, ex_retO, ex_retN, ev_non, ev_bl, ev_int, ev_str, ew_var, ew_mv, ev_tup, ev_lst, ev_op, ev_not, ev_ite, ev_call, ev_dic, ev_and0, ev_and1, ev_or0, ev_or1, ev_es0, ev_es1, ev_os0, ev_osO, ev_osB, os_non, os_bl, os_int, os_str, os_var, os_mv, os_tup, os_lst, os_op, os_ite, os_call, os_not, os_mm, os_get, os_lc, os_dc, os_sortk, os_callk, ev_if0, ev_if1, ev_mm, ev_get, b_ok, t_ok, ab_ok, op_0, op_1, call_1, see, seeO, setS, setTg, setAll, startR, List.getElem?_cons_zero, List.getElem?_cons_succ, List.getElem?_nil, List.set_cons_zero, List.set_cons_succ, List.set_nil, List.length_cons, List.length_nil, List.map_cons, List.map_nil, List.cons_append, List.nil_append, List.replicate, Option.map_some, List.tail_cons, prim, callR, giveOf, putBack, kd_0, kd_1, kd_2, kd_3, kd_4, kd_5, kd_6, kd_7, kd_8, kd_9, kd_10, kd_11, kd_12, kd_13, kd_14, kd_15, kd_16, kd_17, kd_18, kd_19, kd_20, kd_21, kd_22, kd_23, l1, List.map_id', o1]) rfl rfl (fun d hd => ⟨[some st', some (.int 3), some (.dict kvs), A3, some d, none], rfl, rfl, ?_⟩) rfl (by unfold sizeLine; omega)
      simp only [ex_0, ex_1, ex_asg, ex_asgO, ex_setI, ex_aug, ex_augI, ex_exp, ex_ite, ex_ret, ex_retO, ex_retN, ev_non, ev_bl, ev_int, ev_str, ew_var, ew_mv, ev_tup, ev_lst, ev_op, ev_not, ev_ite, ev_call, ev_dic, ev_and0, ev_and1, ev_or0, ev_or1, ev_es0, ev_es1, ev_os0, ev_osO, ev_osB, os_non, os_bl, os_int, os_str, os_var, os_mv, os_tup, os_lst, os_op, os_ite, os_call, os_not, os_mm, os_get, os_lc, os_dc, os_sortk, os_callk, ev_if0, ev_if1, ev_mm, ev_get, b_ok, t_ok, ab_ok, op_0, op_1, call_1, see, seeO, setS, setTg, setAll, startR, List.getElem?_cons_zero, List.getElem?_cons_succ, List.getElem?_nil, List.set_cons_zero, List.set_cons_succ, List.set_nil, List.length_cons, List.length_nil, List.map_cons, List.map_nil, List.cons_append, List.nil_append, List.replicate, Option.map_some, List.tail_cons, prim, callR, giveOf, putBack, kd_0, kd_1, kd_2, kd_3, kd_4, kd_5, kd_6, kd_7, kd_8, kd_9, kd_10, kd_11, kd_12, kd_13, kd_14, kd_15, kd_16, kd_17, kd_18, kd_19, kd_20, kd_21, kd_22, kd_23, at_ d hd, Nat.reduceAdd, ft0, ft1, ft2, ft3, ft4, ft5, ft6, ft7, ft8, ft9, ft10, if_true]
      rfl
    have e3 : out.map (fun k => encP (k, g k)) = (out.map fun k => (k, g k)).map encP := by rw [List.map_map]; rfl
    rw [e3] at l2
    have s0 : exS pgm C (.asgO 2 (.dic [] [])) (startR fi_15 [st, .int 3]) = .nx [some st, some (.int 3), some (.dict []), none, none, none] := by
      show exS pgm C (.asgO 2 (.dic [] [])) [some st, some (.int 3), none, none, none, none] = _
      simp only [ex_0, ex_1, ex_asg, ex_asgO, ex_setI, ex_aug, ex_augI, ex_exp, ex_ite, ex_ret, ex_retO, ex_retN, ev_non, ev_bl, ev_int, ev_str, ew_var, ew_mv, ev_tup, ev_lst, ev_op, ev_not, ev_ite, ev_call, ev_dic, ev_and0, ev_and1, ev_or0, ev_or1, ev_es0, ev_es1, ev_os0, ev_osO, ev_osB, os_non, os_bl, os_int, os_str, os_var, os_mv, os_tup, os_lst, os_op, os_ite, os_call, os_not, os_mm, os_get, os_lc, os_dc, os_sortk, os_callk, ev_if0, ev_if1, ev_mm, ev_get, b_ok, t_ok, ab_ok, op_0, op_1, call_1, see, seeO, setS, setTg, setAll, startR, List.getElem?_cons_zero, List.getElem?_cons_succ, List.getElem?_nil, List.set_cons_zero, List.set_cons_succ, List.set_nil, List.length_cons, List.length_nil, List.map_cons, List.map_nil, List.cons_append, List.nil_append, List.replicate, Option.map_some, List.tail_cons, prim, callR, giveOf, putBack, kd_0, kd_1, kd_2, kd_3, kd_4, kd_5, kd_6, kd_7, kd_8, kd_9, kd_10, kd_11, kd_12, kd_13, kd_14, kd_15, kd_16, kd_17, kd_18, kd_19, kd_20, kd_21, kd_22, kd_23, isTopD, if_true]
    have sf : exS pgm C (.for_ (.nm 3) .rng1 [(.call 10 [(.own 0), (.op .add [(.var 1), (.int 1)])])] monS) [some st, some (.int 3), some (.dict []), none, none, none] = .nx [some st', some (.int 3), some (.dict kvs), A3, none, none] := by
      rw [ex_for (os := [.inl (.int (j : Int))]) (ρ1 := [some s1, some (.int 3), some (.dict []), none, none, none]) (ds := [.int (j : Int)]) (items := I) (by simp only [ex_0, ex_1, ex_asg, ex_asgO, ex_setI, ex_aug, ex_augI, ex_exp, ex_ite, ex_ret, ex_retO, ex_retN, ev_non, ev_bl, ev_int, ev_str, ew_var, ew_mv, ev_tup, ev_lst, ev_op, ev_not, ev_ite, ev_call, ev_dic, ev_and0, ev_and1, ev_or0, ev_or1, ev_es0, ev_es1, ev_os0, ev_osO, ev_osB, os_non, os_bl, os_int, os_str, os_var, os_mv, os_tup, os_lst, os_op, os_ite, os_call, os_not, os_mm, os_get, os_lc, os_dc, os_sortk, os_callk, ev_if0, ev_if1, ev_mm, ev_get, b_ok, t_ok, ab_ok, op_0, op_1, call_1, see, seeO, setS, setTg, setAll, startR, List.getElem?_cons_zero, List.getElem?_cons_succ, List.getElem?_nil, List.set_cons_zero, List.set_cons_succ, List.set_nil, List.length_cons, List.length_nil, List.map_cons, List.map_nil, List.cons_append, List.nil_append, List.replicate, Option.map_some, List.tail_cons, prim, callR, giveOf, putBack, kd_0, kd_1, kd_2, kd_3, kd_4, kd_5, kd_6, kd_7, kd_8, kd_9, kd_10, kd_11, kd_12, kd_13, kd_14, kd_15, kd_16, kd_17, kd_18, kd_19, kd_20, kd_21, kd_22, kd_23, pAdd_ii, Int.reduceAdd, t1]) rfl (by rw [src_rng j (by omega), hI])]
      show (forL (fun r => exSs pgm C monS r) _ _ [some s1, some (.int 3), some (.dict []), none, none, none]).map id = _
      rw [hf]
      rfl
    have er : exS pgm C (.retZ 2 (.op .tup1 [(.lc (.tup [(.var 4), (.op .idx [(.var 2), (.var 4)])]) (.nm 4) .each [(.call 13 [(.lc (.var 5) (.nm 5) .eachD [(.var 2)] [] [5])])] [] [4])])) [some st', some (.int 3), some (.dict kvs), A3, none, none] = .ret (enc (out.map fun k => (k, g k))) [some st', some (.int 3), none, A3, none, none] := by
      refine ex_retZ (ρ1 := [some st', some (.int 3), some (.dict kvs), A3, none, none]) (d0 := .dict kvs) rfl ?_
      generalize (out.map fun k => (k, g k)) = s at l2 ⊢
      simp only [ex_0, ex_1, ex_asg, ex_asgO, ex_setI, ex_aug, ex_augI, ex_exp, ex_ite, ex_ret, ex_retO, ex_retN, ev_non, ev_bl, ev_int, ev_str, ew_var, ew_mv, ev_tup, ev_lst, ev_op, ev_not, ev_ite, ev_call, ev_dic, ev_and0, ev_and1, ev_or0, ev_or1, ev_es0, ev_es1, ev_os0, ev_osO, ev_osB, os_non, os_bl, os_int, os_str, os_var, os_mv, os_tup, os_lst, os_op, os_ite, os_call, os_not, os_mm, os_get, os_lc, os_dc, os_sortk, os_callk, ev_if0, ev_if1, ev_mm, ev_get, b_ok, t_ok, ab_ok, op_0, op_1, call_1, see, seeO, setS, setTg, setAll, startR, List.getElem?_cons_zero, List.getElem?_cons_succ, List.getElem?_nil, List.set_cons_zero, List.set_cons_succ, List.set_nil, List.length_cons, List.length_nil, List.map_cons, List.map_nil, List.cons_append, List.nil_append, List.replicate, Option.map_some, List.tail_cons, prim, callR, giveOf, putBack, kd_0, kd_1, kd_2, kd_3, kd_4, kd_5, kd_6, kd_7, kd_8, kd_9, kd_10, kd_11, kd_12, kd_13, kd_14, kd_15, kd_16, kd_17, kd_18, kd_19, kd_20, kd_21, kd_22, kd_23, l2, pTup1]
      rfl
    rw [show fi_15.body = [(.asgO 2 (.dic [] [])), (.for_ (.nm 3) .rng1 [(.call 10 [(.own 0), (.op .add [(.var 1), (.int 1)])])] monS), (.retZ 2 (.op .tup1 [(.lc (.tup [(.var 4), (.op .idx [(.var 2), (.var 4)])]) (.nm 4) .each [(.call 13 [(.lc (.var 5) (.nm 5) .eachD [(.var 2)] [] [5])])] [] [4])]))] from rfl]
    simp only [ex_1, s0, sf, er]
    rfl
  · have := lin_le (c := 12) (l := out.map fun k => (k, g k)) fun p hp => (h4 p (mem p hp)).2
    rw [List.length_map] at this
    omega
abbrev polS : List S := [(.setI 3 (.call 15 [(.own 0), (.var 2)]) (.op .add [(.int 1), (.call 10 [(.own 0), (.op .idx [(.lst [(.int 1), (.int 3), (.int 1000)]), (.call 10 [(.own 0), (.int 3)])])])]))]
theorem pol_step {C : Orc} (take : Take C) (k15 : ∀ {st : D}, isSt st → ∃ (a : List (D × Int)) (st' : D), C 15 [st, .int 3] = .ret (enc a) [st'] ∧ isSt st' ∧ MonoL 3 36 a) {st : D} (hs : isSt st) {l : List (D × Int)} (hT : ∀ p ∈ l, MonoC 3 36 p.1) (hl : l.length ≤ 100) {A1 A4 : Option D} :
    ∃ (st' x : D) (v : Int), exSs pgm C polS [some st, A1, some (.int 3), some (.dict (bk l)), A4] = .nx [some st', A1, some (.int 3), some (.dict (bk (putL x v l))), A4] ∧ isSt st' ∧ MonoC 3 36 x ∧ 1 ≤ v ∧ v ≤ 1000 := by
  obtain ⟨v1, s1, t1, hs1, v1a, v1b⟩ := take hs (lim := 3) (by decide) (by decide)
  obtain ⟨m, im, m1, m2⟩ := pIdx_int (ds := [.int 1, .int 3, .int 1000]) (v := v1) (P := fun a => 1 ≤ a ∧ a ≤ 1000) v1a (by simpa using v1b) (by
    intro d hd
    simp only [List.mem_cons, List.not_mem_nil, or_false] at hd
    rcases hd with rfl | rfl | rfl
    all_goals exact ⟨_, rfl, by omega, by omega⟩)
  obtain ⟨v2, s2, t2, hs2, v2a, v2b⟩ := take hs1 (lim := m) (by omega) (by omega)
  obtain ⟨a, s3, t3, hs3, ha⟩ := k15 hs2
  have hx : MonoC 3 36 (enc a) := ⟨a, rfl, ha⟩
  have pt := bk_put kf_mono hx hT (by omega) (1 + v2)
  refine ⟨s3, enc a, 1 + v2, ?_, hs3, hx, by omega, by omega⟩
  generalize enc a = x at *
  generalize bk l = kvs at *
  generalize bk (putL x (1 + v2) l) = kvs2 at *
  simp only [ex_0, ex_1, ex_asg, ex_asgO, ex_setI, ex_aug, ex_augI, ex_exp, ex_ite, ex_ret, ex_retO, ex_retN, ev_non, ev_bl, ev_int, ev_str, ew_var, ew_mv, ev_tup, ev_lst, ev_op, ev_not, ev_ite, ev_call, ev_dic, ev_and0, ev_and1, ev_or0, ev_or1, ev_es0, ev_es1, ev_os0, ev_osO, ev_osB, os_non, os_bl, os_int, os_str, os_var, os_mv, os_tup, os_lst, os_op, os_ite, os_call, os_not, os_mm, os_get, os_lc, os_dc, os_sortk, os_callk, ev_if0, ev_if1, ev_mm, ev_get, b_ok, t_ok, ab_ok, op_0, op_1, call_1, see, seeO, setS, setTg, setAll, startR, List.getElem?_cons_zero, List.getElem?_cons_succ, List.getElem?_nil, List.set_cons_zero, List.set_cons_succ, List.set_nil, List.length_cons, List.length_nil, List.map_cons, List.map_nil, List.cons_append, List.nil_append, List.replicate, Option.map_some, List.tail_cons, prim, callR, giveOf, putBack, kd_0, kd_1, kd_2, kd_3, kd_4, kd_5, kd_6, kd_7, kd_8, kd_9, kd_10, kd_11, kd_12, kd_13, kd_14, kd_15, kd_16, kd_17, kd_18, kd_19, kd_20, kd_21, kd_22, kd_23, Nat.reduceAdd, ft0, ft1, ft2, ft3, ft4, ft5, ft6, ft7, ft8, ft9, ft10, if_true, t1, im, t2, pAdd_ii, t3, pt]
theorem c_dpoly (n : Nat) {st : D} (hs : isSt st) : ∃ (p : List (D × Int)) (st' : D), callF pgm (n + 5) 16 [st, .int 5, .int 3] = .ret (enc p) [st'] ∧ isSt st' ∧ PolyC 3 36 5 5000 p := by
  rw [callF_at (fi := fi_16) rfl rfl]
  have take : Take (callF pgm (n + 4)) := c_take (n + 2)
  have k15 := fun {st : D} (hs : isSt st) => c_monomial n hs
  have k14 := fun {l : List (D × Int)} (hP : ∀ p ∈ l, MonoC 3 36 p.1) (nd : (l.map (·.1)).Nodup) (pos : ∀ p ∈ l, 1 ≤ p.2) (hl : l.length ≤ 1000) => c_normal (n + 2) kf_mono hP nd pos hl
  generalize callF pgm (n + 4) = C at take k15 k14
  obtain ⟨v, s1, t1, hs1, v0, v1⟩ := take hs (lim := 6) (by decide) (by decide)
  obtain ⟨j, rfl⟩ := Int.eq_ofNat_of_zero_le v0
  obtain ⟨I, hI⟩ : ∃ I, I = (List.range j).map fun (k : Nat) => PyData.int (k : Int) := ⟨_, rfl⟩
  have Il : I.length = j := by rw [hI, List.length_map, List.length_range]
  obtain ⟨ρ', hf, st', l, A3, rfl, hs', h1, h2, h3, h4⟩ : ∃ ρ', forL (fun r => exSs pgm C polS r) (.nm 4) I [some s1, some (.int 5), some (.int 3), some (.dict []), none] = .nx ρ' ∧
      ∃ (st' : D) (l : List (D × Int)) (A3 : Option D), ρ' = [some st', some (.int 5), some (.int 3), some (.dict (bk l)), A3] ∧ isSt st' ∧ (∀ p ∈ l, MonoC 3 36 p.1) ∧ (l.map (·.1)).Nodup ∧ l.length ≤ I.length ∧ ∀ p ∈ l, 1 ≤ p.2 ∧ p.2 ≤ 1000 := by
    refine forL_nx (fun pre ρ => ∃ (st' : D) (l : List (D × Int)) (A3 : Option D), ρ = [some st', some (.int 5), some (.int 3), some (.dict (bk l)), A3] ∧ isSt st' ∧ (∀ p ∈ l, MonoC 3 36 p.1) ∧ (l.map (·.1)).Nodup ∧ l.length ≤ pre.length ∧ ∀ p ∈ l, 1 ≤ p.2 ∧ p.2 ≤ 1000) _ _ ⟨s1, [], none, rfl, hs1, by simp, .nil, by simp, by simp⟩ ?_
    rintro pre d post ρ hd ⟨st1, l, A3, rfl, hs1, h1, h2, h3, h4⟩
    have hpl : pre.length < 6 := by
      have := congrArg List.length hd
      rw [List.length_append, List.length_cons] at this
      omega
    obtain ⟨s2, x, w, e, hs2, hx, w1, w2⟩ := pol_step take k15 hs1 h1 (by omega) (A1 := some (.int 5)) (A4 := some d)
    obtain ⟨q1, q2, q3, q4, q5⟩ := put_keys (k := x) (v := w) (l := l)
    refine ⟨_, _, rfl, .inl e, s2, putL x w l, some d, rfl, hs2, fun p hp => ?_, q2 h2, by rw [List.length_append, List.length_singleton]; omega, fun p hp => ?_⟩
    · rcases q5 p hp with z | z
      · exact h1 p z
      · rw [z]; exact hx
    · rcases q5 p hp with z | z
      · exact h4 p z
      · rw [z]; exact ⟨w1, w2⟩
  obtain ⟨s, r1, r2, r3⟩ := k14 h1 h2 (fun p hp => (h4 p hp).1) (by omega)
  have sl : s.length ≤ 5 := by rw [r2.length_eq]; omega
  refine ⟨s, st', ?_, hs', ⟨r3, fun p hp => (h4 p (r2.mem_iff.mp hp)).1⟩, fun p hp => h1 p (r2.mem_iff.mp hp), sl, ?_⟩
  · generalize bk l = kvs at *
    have s0 : exS pgm C (.asgO 3 (.dic [] [])) (startR fi_16 [st, .int 5, .int 3]) = .nx [some st, some (.int 5), some (.int 3), some (.dict []), none] := by
      show exS pgm C (.asgO 3 (.dic [] [])) [some st, some (.int 5), some (.int 3), none, none] = _
      simp only [ex_0, ex_1, ex_asg, ex_asgO, ex_setI, ex_aug, ex_augI, ex_exp, ex_ite, ex_ret, ex_retO, ex_retN, ev_non, ev_bl, ev_int, ev_str, ew_var, ew_mv, ev_tup, ev_lst, ev_op, ev_not, ev_ite, ev_call, ev_dic, ev_and0, ev_and1, ev_or0, ev_or1, ev_es0, ev_es1, ev_os0, ev_osO, ev_osB, os_non, os_bl, os_int, os_str, os_var, os_mv, os_tup, os_lst, os_op, os_ite, os_call, os_not, os_mm, os_get, os_lc, os_dc, os_sortk, os_callk, ev_if0, ev_if1, ev_mm, ev_get, b_ok, t_ok, ab_ok, op_0, op_1, call_1, see, seeO, setS, setTg, setAll, startR, List.getElem?_cons_zero, List.getElem?_cons_succ, List.getElem?_nil, List.set_cons_zero, List.set_cons_succ, List.set_nil, List.length_cons, List.length_nil, List.map_cons, List.map_nil, List.cons_append, List.nil_append, List.replicate, Option.map_some, List.tail_cons, prim, callR, giveOf, putBack, kd_0, kd_1, kd_2, kd_3, kd_4, kd_5, kd_6, kd_7, kd_8, kd_9, kd_10, kd_11, kd_12, kd_13, kd_14, kd_15, kd_16, kd_17, kd_18, kd_19, kd_20, kd_21, kd_22, kd_23, isTopD, if_true]
    have sf : exS pgm C (.for_ (.nm 4) .rng1 [(.call 10 [(.own 0), (.op .add [(.var 1), (.int 1)])])] polS) [some st, some (.int 5), some (.int 3), some (.dict []), none] = .nx [some st', some (.int 5), some (.int 3), some (.dict kvs), A3] := by
      rw [ex_for (os := [.inl (.int (j : Int))]) (ρ1 := [some s1, some (.int 5), some (.int 3), some (.dict []), none]) (ds := [.int (j : Int)]) (items := I) (by simp only [ex_0, ex_1, ex_asg, ex_asgO, ex_setI, ex_aug, ex_augI, ex_exp, ex_ite, ex_ret, ex_retO, ex_retN, ev_non, ev_bl, ev_int, ev_str, ew_var, ew_mv, ev_tup, ev_lst, ev_op, ev_not, ev_ite, ev_call, ev_dic, ev_and0, ev_and1, ev_or0, ev_or1, ev_es0, ev_es1, ev_os0, ev_osO, ev_osB, os_non, os_bl, os_int, os_str, os_var, os_mv, os_tup, os_lst, os_op, os_ite, os_call, os_not, os_mm, os_get, os_lc, os_dc, os_sortk, os_callk, ev_if0, ev_if1, ev_mm, ev_get, b_ok, t_ok, ab_ok, op_0, op_1, call_1, see, seeO, setS, setTg, setAll, startR, List.getElem?_cons_zero, List.getElem?_cons_succ, List.getElem?_nil, List.set_cons_zero, List.set_cons_succ, List.set_nil, List.length_cons, List.length_nil, List.map_cons, List.map_nil, List.cons_append, List.nil_append, List.replicate, Option.map_some, List.tail_cons, prim, callR, giveOf, putBack, kd_0, kd_1, kd_2, kd_3, kd_4, kd_5, kd_6, kd_7, kd_8, kd_9, kd_10, kd_11, kd_12, kd_13, kd_14, kd_15, kd_16, kd_17, kd_18, kd_19, kd_20, kd_21, kd_22, kd_23, pAdd_ii, Int.reduceAdd, t1]) rfl (by rw [src_rng j (by omega), hI])]
      show (forL (fun r => exSs pgm C polS r) _ _ [some s1, some (.int 5), some (.int 3), some (.dict []), none]).map id = _
      rw [hf]
      rfl
    rw [show fi_16.body = [(.asgO 3 (.dic [] [])), (.for_ (.nm 4) .rng1 [(.call 10 [(.own 0), (.op .add [(.var 1), (.int 1)])])] polS), (.ret (.call 14 [(.own 3)]))] from rfl]
    simp only [ex_1, s0, sf]
    simp only [ex_0, ex_1, ex_asg, ex_asgO, ex_setI, ex_aug, ex_augI, ex_exp, ex_ite, ex_ret, ex_retO, ex_retN, ev_non, ev_bl, ev_int, ev_str, ew_var, ew_mv, ev_tup, ev_lst, ev_op, ev_not, ev_ite, ev_call, ev_dic, ev_and0, ev_and1, ev_or0, ev_or1, ev_es0, ev_es1, ev_os0, ev_osO, ev_osB, os_non, os_bl, os_int, os_str, os_var, os_mv, os_tup, os_lst, os_op, os_ite, os_call, os_not, os_mm, os_get, os_lc, os_dc, os_sortk, os_callk, ev_if0, ev_if1, ev_mm, ev_get, b_ok, t_ok, ab_ok, op_0, op_1, call_1, see, seeO, setS, setTg, setAll, startR, List.getElem?_cons_zero, List.getElem?_cons_succ, List.getElem?_nil, List.set_cons_zero, List.set_cons_succ, List.set_nil, List.length_cons, List.length_nil, List.map_cons, List.map_nil, List.cons_append, List.nil_append, List.replicate, Option.map_some, List.tail_cons, prim, callR, giveOf, putBack, kd_0, kd_1, kd_2, kd_3, kd_4, kd_5, kd_6, kd_7, kd_8, kd_9, kd_10, kd_11, kd_12, kd_13, kd_14, kd_15, kd_16, kd_17, kd_18, kd_19, kd_20, kd_21, kd_22, kd_23, r1, endOf, givenOf]
  · have := lin_le (c := 1000) (l := s) fun p hp => (h4 p (r2.mem_iff.mp hp)).2
    omega
end PV

set_option maxHeartbeats 4000000
namespace PV
open PySem
/-! ### law_k02: products of monomials, what the program checks -/
theorem ev_glo0 {C : Orc} {ρ : Rho} : evE pgm C (.glo 0) ρ = .ok (.int 400) ρ := by
  rw [evE]
  rfl
def FG : Int := 10000000000000000000000000000000000000000000000000000000000000000000000000000000000000000000000000000
theorem fg_big : (1000000000000000000 : Int) < FG := by decide
theorem ev_glo1 {C : Orc} {ρ : Rho} : evE pgm C (.glo 1) ρ = .ok (.int FG) ρ := by
  rw [evE]
  rfl
theorem os_glo {C : Orc} {ρ : Rho} {j : Nat} {as : List X} : evOs pgm C ((.glo j) :: as) ρ = (evE pgm C (.glo j) ρ).bind fun d ρ1 => (evOs pgm C as ρ1).bind fun os ρ2 => .ok (.inl d :: os) ρ2 := ev_osV rfl
theorem mem_tot : ∀ {l : List (D × Int)}, (∀ p ∈ l, 1 ≤ p.2) → 0 ≤ lin (fun _ => 1) l ∧ ∀ p ∈ l, p.2 ≤ lin (fun _ => 1) l
  | [], _ => ⟨by rw [lin_nil]; decide, by simp⟩
  | p :: l, h => by
    obtain ⟨h1, h2⟩ := mem_tot (l := l) fun q hq => h q (by simp [hq])
    have h0 := h p (by simp)
    rw [lin_cons, Int.mul_one]
    refine ⟨by omega, fun q hq => ?_⟩
    rcases List.mem_cons.mp hq with z | z
    · rw [z]; omega
    · have := h2 q z; omega
theorem dict_bk {t : Ty} {P : D → Prop} {q : Nat} (K : Kf P t q) : ∀ (xs pre : List (D × Int)), (∀ p ∈ pre ++ xs, P p.1) → ((pre ++ xs).map (·.1)).Nodup → (pre ++ xs).length ≤ 1000 → dictOf (xs.map encP) (bk pre) = some (bk (pre ++ xs))
  | [], pre, _, _, _ => by rw [List.append_nil]; rfl
  | x :: xs, pre, h, hn, hl => by
    have hx := h x (by simp)
    have hp : ∀ p ∈ pre, P p.1 := fun p hp => h p (by simp [hp])
    have no : x.1 ∉ pre.map (·.1) := fun z => by
      rw [List.map_append, List.map_cons, List.nodup_append] at hn
      exact hn.2.2 _ z _ (by simp) rfl
    have put : ∀ {l : List (D × Int)} {v : Int}, x.1 ∉ l.map (·.1) → putL x.1 v l = l ++ [(x.1, v)] := fun {l v} => by
      induction l with
      | nil => exact fun _ => rfl
      | cons y l ih =>
        intro z
        rw [List.map_cons, List.mem_cons, not_or] at z
        unfold putL
        rw [if_neg fun e => z.1 e.symm, ih z.2]
        rfl
    have step : dictOf ((x :: xs).map encP) (bk pre) = dictOf (xs.map encP) (dput x.1 (.int x.2) (bk pre)) := by
      show (if keyFits x.1 (bk pre) && decide ((bk pre).length < sizeLine) then dictOf (xs.map encP) (dput x.1 (.int x.2) (bk pre)) else none) = _
      rw [K.fits hx hp, decide_eq_true (by unfold bk; rw [List.length_map]; simp only [List.length_append] at hl; unfold sizeLine; omega)]
      rfl
    rw [step, dput_bk (K.ty _ hx) fun p h => K.ty _ (hp p h), put no]
    have := dict_bk K xs (pre ++ [x]) (by simpa using h) (by simpa using hn) (by simpa using hl)
    rw [show pre ++ [(x.1, x.2)] = pre ++ [x] from rfl, this]
    simp
theorem bk_fold {P : D → Prop} {t : Ty} {q : Nat} (K : Kf P t q) {f : Rho → SR} {tg : Tg} {st : D → Rho → Prop} (hf : ∀ (k : D) (c : Int) (l : List (D × Int)) (ρ : Rho), P k → 1 ≤ c → c ≤ 1000000000000000000 → (∀ p ∈ l, P p.1) → l.length ≤ 1000 → st (.dict (bk l)) ρ → ∃ ρ1 ρ2, setTg tg (encP (k, c)) ρ = some ρ1 ∧ (f ρ1 = .nx ρ2 ∨ f ρ1 = .cont ρ2) ∧ st (.dict (bk (addL k c l))) ρ2) :
    ∀ (xs : List (D × Int)) (l : List (D × Int)) (ρ : Rho), (∀ p ∈ xs, P p.1 ∧ 1 ≤ p.2 ∧ p.2 ≤ 1000000000000000000) → (∀ p ∈ l, P p.1) → l.length + xs.length ≤ 1000 → st (.dict (bk l)) ρ → ∃ ρ', forL f tg (xs.map encP) ρ = .nx ρ' ∧ st (.dict (bk (xs.foldl (fun a p => addL p.1 p.2 a) l))) ρ'
  | [], l, ρ, _, _, _, h => ⟨ρ, rfl, h⟩
  | x :: xs, l, ρ, hx, hl, hn, h => by
    obtain ⟨x1, x2, x3⟩ := hx x (by simp)
    rw [List.length_cons] at hn
    obtain ⟨ρ1, ρ2, e1, e2, h2⟩ := hf x.1 x.2 l ρ x1 x2 x3 hl (by omega) h
    obtain ⟨q1, q2, q3, q4, q5⟩ := put_keys (k := x.1) (v := (getL x.1 l).getD 0 + x.2) (l := l)
    obtain ⟨ρ', e3, h3⟩ := bk_fold K hf xs (addL x.1 x.2 l) ρ2 (fun p hp => hx p (by simp [hp])) (fun p hp => by
      rcases q5 p hp with z | z
      · exact hl p z
      · rw [z]; exact x1) (by
      have : (addL x.1 x.2 l).length ≤ l.length + 1 := q3
      omega) h2
    refine ⟨ρ', ?_, h3⟩
    rw [List.map_cons, ← e3]
    have e1 : setTg tg (encP x) ρ = some ρ1 := e1
    rcases e2 with e2 | e2 <;> simp only [forL, e1, e2]
/-- a canonical sum is its own sum -/
theorem sumOk_can {a : List (D × Int)} (h : Can a) : SumOk a a := ⟨srt_nodup h.srt, h.pos, fun _ => Iff.rfl, Nat.le_refl _, fun _ => rfl⟩
theorem c_prod (n : Nat) {n1 n2 : Nat} {e1 e2 : Int} {a b : List (D × Int)} (ha : MonoL n1 e1 a) (hb : MonoL n2 e2 b) (hn : n1 + n2 ≤ 1000) (he : e1 ≤ 1000000 ∧ e2 ≤ 1000000) : callF pgm (n + 1) 3 [enc a, enc b] = .ret (enc (nfL (a ++ b))) [] := by
  rw [callF_at (fi := fi_3) rfl rfl]
  generalize callF pgm n = C
  have al := ha.len
  have bl := hb.len
  have dc : dictOf (a.map encP) [] = some (bk a) := by
    have := dict_bk kf_str a [] (by simpa using ha.ty) (by simpa using srt_nodup ha.can.srt) (by simp; omega)
    exact this
  have s1 : exS pgm C (.asgO 2 (.dc (.var 3) (.var 4) (.tp [3, 4]) .each [(.var 0)] [] [3, 4])) [some (enc a), some (enc b), none, none, none] = .nx [some (enc a), some (enc b), some (.dict (bk a)), none, none] := by
    have : evE pgm C (.dc (.var 3) (.var 4) (.tp [3, 4]) .each [(.var 0)] [] [3, 4]) [some (enc a), some (enc b), none, none, none] = .ok (.dict (bk a)) [some (enc a), some (enc b), none, none, none] := by
      refine dc_pure (os := [.inl (enc a)]) (ds := [enc a]) (items := a.map encP) (h := fun d => d) (by simp only [ex_0, ex_1, ex_asg, ex_asgO, ex_setI, ex_aug, ex_augI, ex_exp, ex_ite, ex_ret, ex_retO, ex_retN, ev_non, ev_bl, ev_int, ev_str, ew_var, ew_mv, ev_tup, ev_lst, ev_op, ev_not, ev_ite, ev_call, ev_dic, ev_and0, ev_and1, ev_or0, ev_or1, ev_es0, ev_es1, ev_os0, ev_osO, ev_osB, os_non, os_bl, os_int, os_str, os_var, os_mv, os_tup, os_lst, os_op, os_ite, os_call, os_not, os_mm, os_get, os_lc, os_dc, os_sortk, os_callk, ev_if0, ev_if1, ev_mm, ev_get, b_ok, t_ok, ab_ok, op_0, op_1, call_1, see, seeO, setS, setTg, setAll, startR, List.getElem?_cons_zero, List.getElem?_cons_succ, List.getElem?_nil, List.set_cons_zero, List.set_cons_succ, List.set_nil, List.length_cons, List.length_nil, List.map_cons, List.map_nil, List.cons_append, List.nil_append, List.replicate, Option.map_some, List.tail_cons, prim, callR, giveOf, putBack, kd_0, kd_1, kd_2, kd_3, kd_4, kd_5, kd_6, kd_7, kd_8, kd_9, kd_10, kd_11, kd_12, kd_13, kd_14, kd_15, kd_16, kd_17, kd_18, kd_19, kd_20, kd_21, kd_22, kd_23]) rfl rfl (fun z hz => ?_) rfl (by rw [List.map_id']; exact dc)
      obtain ⟨p, hp, rfl⟩ := List.mem_map.mp hz
      refine ⟨[some (enc a), some (enc b), none, some p.1, some (.int p.2)], rfl, rfl, ?_⟩
      simp only [ex_0, ex_1, ex_asg, ex_asgO, ex_setI, ex_aug, ex_augI, ex_exp, ex_ite, ex_ret, ex_retO, ex_retN, ev_non, ev_bl, ev_int, ev_str, ew_var, ew_mv, ev_tup, ev_lst, ev_op, ev_not, ev_ite, ev_call, ev_dic, ev_and0, ev_and1, ev_or0, ev_or1, ev_es0, ev_es1, ev_os0, ev_osO, ev_osB, os_non, os_bl, os_int, os_str, os_var, os_mv, os_tup, os_lst, os_op, os_ite, os_call, os_not, os_mm, os_get, os_lc, os_dc, os_sortk, os_callk, ev_if0, ev_if1, ev_mm, ev_get, b_ok, t_ok, ab_ok, op_0, op_1, call_1, see, seeO, setS, setTg, setAll, startR, List.getElem?_cons_zero, List.getElem?_cons_succ, List.getElem?_nil, List.set_cons_zero, List.set_cons_succ, List.set_nil, List.length_cons, List.length_nil, List.map_cons, List.map_nil, List.cons_append, List.nil_append, List.replicate, Option.map_some, List.tail_cons, prim, callR, giveOf, putBack, kd_0, kd_1, kd_2, kd_3, kd_4, kd_5, kd_6, kd_7, kd_8, kd_9, kd_10, kd_11, kd_12, kd_13, kd_14, kd_15, kd_16, kd_17, kd_18, kd_19, kd_20, kd_21, kd_22, kd_23]
      rfl
    rw [ex_asgO, this]
    rfl
  obtain ⟨ρ', hf, A3, A4, rfl⟩ := bk_fold kf_str (f := fun r => exSs pgm C [(.setI 2 (.var 3) (.op .add [(.get 2 [(.var 3), (.int 0)]), (.var 4)]))] r) (tg := .tp [3, 4]) (st := fun d ρ => ∃ A3 A4 : Option D, ρ = [some (enc a), some (enc b), some d, A3, A4]) (by
    rintro k c l ρ hk c1 c2 hl ll ⟨A3, A4, rfl⟩
    obtain ⟨v, g, pt⟩ := bk_add kf_str hk hl (by omega)
    have pt := pt c
    generalize bk l = kvs at *
    generalize bk (addL k c l) = kvs2 at *
    refine ⟨[some (enc a), some (enc b), some (.dict kvs), some k, some (.int c)], _, rfl, .inl ?_, some k, some (.int c), rfl⟩
    simp only [ex_0, ex_1, ex_asg, ex_asgO, ex_setI, ex_aug, ex_augI, ex_exp, ex_ite, ex_ret, ex_retO, ex_retN, ev_non, ev_bl, ev_int, ev_str, ew_var, ew_mv, ev_tup, ev_lst, ev_op, ev_not, ev_ite, ev_call, ev_dic, ev_and0, ev_and1, ev_or0, ev_or1, ev_es0, ev_es1, ev_os0, ev_osO, ev_osB, os_non, os_bl, os_int, os_str, os_var, os_mv, os_tup, os_lst, os_op, os_ite, os_call, os_not, os_mm, os_get, os_lc, os_dc, os_sortk, os_callk, ev_if0, ev_if1, ev_mm, ev_get, b_ok, t_ok, ab_ok, op_0, op_1, call_1, see, seeO, setS, setTg, setAll, startR, List.getElem?_cons_zero, List.getElem?_cons_succ, List.getElem?_nil, List.set_cons_zero, List.set_cons_succ, List.set_nil, List.length_cons, List.length_nil, List.map_cons, List.map_nil, List.cons_append, List.nil_append, List.replicate, Option.map_some, List.tail_cons, prim, callR, giveOf, putBack, kd_0, kd_1, kd_2, kd_3, kd_4, kd_5, kd_6, kd_7, kd_8, kd_9, kd_10, kd_11, kd_12, kd_13, kd_14, kd_15, kd_16, kd_17, kd_18, kd_19, kd_20, kd_21, kd_22, kd_23, g, pAdd_ii, pt]) b a [some (enc a), some (enc b), some (.dict (bk a)), none, none] (fun p hp => ⟨hb.ty p hp, hb.can.pos p hp, by have := (mem_tot hb.can.pos).2 p hp; have := hb.tot; omega⟩) ha.ty (by omega) ⟨none, none, rfl⟩
  have so := sumOk_fold b (sumOk_can ha.can) hb.can.pos
  have ty : ∀ p ∈ b.foldl (fun a p => addL p.1 p.2 a) a, isT .str p.1 = true := fun p hp => by
    have := (so.keys p.1).mp (List.mem_map_of_mem hp)
    rw [List.map_append, List.mem_append] at this
    rcases this with z | z
    · obtain ⟨r, hr, e⟩ := List.mem_map.mp z
      rw [← e]; exact ha.ty r hr
    · obtain ⟨r, hr, e⟩ := List.mem_map.mp z
      rw [← e]; exact hb.ty r hr
  have len := so.len
  rw [List.length_append] at len
  generalize b.foldl (fun a p => addL p.1 p.2 a) a = l at *
  obtain ⟨s, p1, p2, p3⟩ := sort_pairs (t := .str) (by decide) ty so.nd (by omega)
  rw [nf_of so p1 p2]
  have s2 : exS pgm C (.for_ (.tp [3, 4]) .each [(.var 1)] [(.setI 2 (.var 3) (.op .add [(.get 2 [(.var 3), (.int 0)]), (.var 4)]))]) [some (enc a), some (enc b), some (.dict (bk a)), none, none] = .nx [some (enc a), some (enc b), some (.dict (bk l)), A3, A4] := by
    rw [ex_for (os := [.inl (enc b)]) (ρ1 := [some (enc a), some (enc b), some (.dict (bk a)), none, none]) (ds := [enc b]) (items := b.map encP) (by simp only [ex_0, ex_1, ex_asg, ex_asgO, ex_setI, ex_aug, ex_augI, ex_exp, ex_ite, ex_ret, ex_retO, ex_retN, ev_non, ev_bl, ev_int, ev_str, ew_var, ew_mv, ev_tup, ev_lst, ev_op, ev_not, ev_ite, ev_call, ev_dic, ev_and0, ev_and1, ev_or0, ev_or1, ev_es0, ev_es1, ev_os0, ev_osO, ev_osB, os_non, os_bl, os_int, os_str, os_var, os_mv, os_tup, os_lst, os_op, os_ite, os_call, os_not, os_mm, os_get, os_lc, os_dc, os_sortk, os_callk, ev_if0, ev_if1, ev_mm, ev_get, b_ok, t_ok, ab_ok, op_0, op_1, call_1, see, seeO, setS, setTg, setAll, startR, List.getElem?_cons_zero, List.getElem?_cons_succ, List.getElem?_nil, List.set_cons_zero, List.set_cons_succ, List.set_nil, List.length_cons, List.length_nil, List.map_cons, List.map_nil, List.cons_append, List.nil_append, List.replicate, Option.map_some, List.tail_cons, prim, callR, giveOf, putBack, kd_0, kd_1, kd_2, kd_3, kd_4, kd_5, kd_6, kd_7, kd_8, kd_9, kd_10, kd_11, kd_12, kd_13, kd_14, kd_15, kd_16, kd_17, kd_18, kd_19, kd_20, kd_21, kd_22, kd_23]) rfl rfl]
    show (forL _ _ _ [some (enc a), some (enc b), some (.dict (bk a)), none, none]).map id = _
    rw [hf]
    rfl
  have di : pDitems [.dict (bk l)] = some (.list (l.map encP)) := by
    show (if fitsLn (bk l).length && (bk l).all (fun p => keyKd p.1 != 2) then some (PyData.list ((bk l).map fun p => .tuple [p.1, p.2])) else none) = _
    have h1 : fitsLn (bk l).length = true := decide_eq_true (by unfold bk; rw [List.length_map]; unfold sizeLine; omega)
    have h2 : (bk l).all (fun p => keyKd p.1 != 2) = true := List.all_eq_true.mpr fun z hz => by
      obtain ⟨p, hp, rfl⟩ := List.mem_map.mp hz
      obtain ⟨s, e⟩ := isT_str (ty p hp)
      show (keyKd p.1 != 2) = true
      rw [e]; rfl
    rw [h1, h2]
    show some (PyData.list ((bk l).map fun p => .tuple [p.1, p.2])) = _
    unfold bk
    rw [List.map_map]
    rfl
  have s3 : exS pgm C (.ret (.op .tup1 [(.op .sort1 [(.op .ditems [(.own 2)])])])) [some (enc a), some (enc b), some (.dict (bk l)), A3, A4] = .ret (enc s) [some (enc a), some (enc b), some (.dict (bk l)), A3, A4] := by
    generalize bk l = kvs at *
    simp only [ex_0, ex_1, ex_asg, ex_asgO, ex_setI, ex_aug, ex_augI, ex_exp, ex_ite, ex_ret, ex_retO, ex_retN, ev_non, ev_bl, ev_int, ev_str, ew_var, ew_mv, ev_tup, ev_lst, ev_op, ev_not, ev_ite, ev_call, ev_dic, ev_and0, ev_and1, ev_or0, ev_or1, ev_es0, ev_es1, ev_os0, ev_osO, ev_osB, os_non, os_bl, os_int, os_str, os_var, os_mv, os_tup, os_lst, os_op, os_ite, os_call, os_not, os_mm, os_get, os_lc, os_dc, os_sortk, os_callk, ev_if0, ev_if1, ev_mm, ev_get, b_ok, t_ok, ab_ok, op_0, op_1, call_1, see, seeO, setS, setTg, setAll, startR, List.getElem?_cons_zero, List.getElem?_cons_succ, List.getElem?_nil, List.set_cons_zero, List.set_cons_succ, List.set_nil, List.length_cons, List.length_nil, List.map_cons, List.map_nil, List.cons_append, List.nil_append, List.replicate, Option.map_some, List.tail_cons, prim, callR, giveOf, putBack, kd_0, kd_1, kd_2, kd_3, kd_4, kd_5, kd_6, kd_7, kd_8, kd_9, kd_10, kd_11, kd_12, kd_13, kd_14, kd_15, kd_16, kd_17, kd_18, kd_19, kd_20, kd_21, kd_22, kd_23, di, p3, pTup1]
    rfl
  show endOf pgm 3 (exSs pgm C fi_3.body [some (enc a), some (enc b), none, none, none]) = _
  rw [show fi_3.body = [(.asgO 2 (.dc (.var 3) (.var 4) (.tp [3, 4]) .each [(.var 0)] [] [3, 4])), (.for_ (.tp [3, 4]) .each [(.var 1)] [(.setI 2 (.var 3) (.op .add [(.get 2 [(.var 3), (.int 0)]), (.var 4)]))]), (.ret (.op .tup1 [(.op .sort1 [(.op .ditems [(.own 2)])])]))] from rfl]
  simp only [ex_1, s1, s2, s3]
  rfl
/-- the law's product -/
theorem c_lprod (n : Nat) {n1 n2 : Nat} {e1 e2 : Int} {a b : List (D × Int)} (ha : MonoL n1 e1 a) (hb : MonoL n2 e2 b) (hn : n1 + n2 ≤ 1000) (he : e1 ≤ 1000000 ∧ e2 ≤ 1000000) : callF pgm (n + 2) 18 [enc a, enc b] = .ret (enc (nfL (a ++ b))) [] := by
  rw [callF_at (fi := fi_18) rfl rfl]
  have k13 := fun {rows : List D} (hT : ∀ x ∈ rows, isT .str x = true) (hn : rows.Nodup) (hl : rows.length ≤ 1000) => c_sorted n (t := .str) (by decide) hT hn hl
  generalize callF pgm (n + 1) = C at k13
  have al := ha.len
  have bl := hb.len
  have ad : pAdd [enc a, enc b] = some (.tuple ((a ++ b).map encP)) := by
    show pAdd [.tuple (a.map encP), .tuple (b.map encP)] = _
    rw [List.map_append]
    show (if fitsLn ((a.map encP).length + (b.map encP).length) then some (PyData.tuple (a.map encP ++ b.map encP)) else none) = _
    rw [show fitsLn ((a.map encP).length + (b.map encP).length) = true from decide_eq_true (by rw [List.length_map, List.length_map]; unfold sizeLine; omega)]
    rfl
  have ab : ∀ p ∈ a ++ b, isT .str p.1 = true ∧ 1 ≤ p.2 ∧ p.2 ≤ 1000000000000000000 := fun p hp => by
    rcases List.mem_append.mp hp with z | z
    · exact ⟨ha.ty p z, ha.can.pos p z, by have := (mem_tot ha.can.pos).2 p z; have := ha.tot; omega⟩
    · exact ⟨hb.ty p z, hb.can.pos p z, by have := (mem_tot hb.can.pos).2 p z; have := hb.tot; omega⟩
  obtain ⟨ρ', hf, A3, A4, rfl⟩ := bk_fold kf_str (f := fun r => exSs pgm C [(.setI 2 (.var 3) (.op .add [(.get 2 [(.var 3), (.int 0)]), (.var 4)]))] r) (tg := .tp [3, 4]) (st := fun d ρ => ∃ A3 A4 : Option D, ρ = [some (enc a), some (enc b), some d, A3, A4, none]) (by
    rintro k c l ρ hk c1 c2 hl ll ⟨A3, A4, rfl⟩
    obtain ⟨v, g, pt⟩ := bk_add kf_str hk hl (by omega)
    have pt := pt c
    generalize bk l = kvs at *
    generalize bk (addL k c l) = kvs2 at *
    refine ⟨[some (enc a), some (enc b), some (.dict kvs), some k, some (.int c), none], _, rfl, .inl ?_, some k, some (.int c), rfl⟩
    simp only [ex_0, ex_1, ex_asg, ex_asgO, ex_setI, ex_aug, ex_augI, ex_exp, ex_ite, ex_ret, ex_retO, ex_retN, ev_non, ev_bl, ev_int, ev_str, ew_var, ew_mv, ev_tup, ev_lst, ev_op, ev_not, ev_ite, ev_call, ev_dic, ev_and0, ev_and1, ev_or0, ev_or1, ev_es0, ev_es1, ev_os0, ev_osO, ev_osB, os_non, os_bl, os_int, os_str, os_var, os_mv, os_tup, os_lst, os_op, os_ite, os_call, os_not, os_mm, os_get, os_lc, os_dc, os_sortk, os_callk, ev_if0, ev_if1, ev_mm, ev_get, b_ok, t_ok, ab_ok, op_0, op_1, call_1, see, seeO, setS, setTg, setAll, startR, List.getElem?_cons_zero, List.getElem?_cons_succ, List.getElem?_nil, List.set_cons_zero, List.set_cons_succ, List.set_nil, List.length_cons, List.length_nil, List.map_cons, List.map_nil, List.cons_append, List.nil_append, List.replicate, Option.map_some, List.tail_cons, prim, callR, giveOf, putBack, kd_0, kd_1, kd_2, kd_3, kd_4, kd_5, kd_6, kd_7, kd_8, kd_9, kd_10, kd_11, kd_12, kd_13, kd_14, kd_15, kd_16, kd_17, kd_18, kd_19, kd_20, kd_21, kd_22, kd_23, g, pAdd_ii, pt]) (a ++ b) [] [some (enc a), some (enc b), some (.dict []), none, none, none] ab (by simp) (by rw [List.length_append]; simp only [List.length_nil]; omega) ⟨none, none, rfl⟩
  have so : SumOk (a ++ b) (sumL (a ++ b)) := sumOk fun p hp => (ab p hp).2.1
  have hf : forL (fun r => exSs pgm C [(.setI 2 (.var 3) (.op .add [(.get 2 [(.var 3), (.int 0)]), (.var 4)]))] r) (.tp [3, 4]) ((a ++ b).map encP) [some (enc a), some (enc b), some (.dict []), none, none, none] = .nx [some (enc a), some (enc b), some (.dict (bk (sumL (a ++ b)))), A3, A4, none] := hf
  have ty : ∀ p ∈ sumL (a ++ b), isT .str p.1 = true := fun p hp => by
    obtain ⟨r, hr, e⟩ := List.mem_map.mp ((so.keys p.1).mp (List.mem_map_of_mem hp))
    rw [← e]; exact (ab r hr).1
  have len := so.len
  rw [List.length_append] at len
  generalize sumL (a ++ b) = l at *
  have kT : ∀ x ∈ l.map (·.1), isT .str x = true := fun x hx => by
    obtain ⟨p, hp, rfl⟩ := List.mem_map.mp hx
    exact ty p hp
  obtain ⟨out, o1, o2, o3⟩ := k13 kT so.nd (by rw [keys_len]; omega)
  have ol : out.length ≤ 1000 := by rw [o3.length_eq, keys_len]; omega
  obtain ⟨g, hg⟩ : ∃ g : D → Int, g = fun k => (getL k l).getD 0 := ⟨_, rfl⟩
  have gv : ∀ p ∈ l, g p.1 = p.2 := fun p hp => by rw [hg]; show (getL p.1 l).getD 0 = p.2; rw [get_of so.nd (show (p.1, p.2) ∈ l from hp)]; rfl
  have at_ : ∀ k ∈ out, pIdx [.dict (bk l), k] = some (.int (g k)) := fun k hk => by
    obtain ⟨p, hp, rfl⟩ := List.mem_map.mp (o3.mem_iff.mp hk)
    rw [gv p hp]
    exact bk_idx kf_str (ty p hp) ty so.nd hp
  rw [nf_of so (perm_back o3 gv) (by rw [List.map_map]; exact (map_id_of (f := (fun x : D × Int => x.1) ∘ fun k => (k, g k)) (l := out) fun _ _ => rfl).symm ▸ o2)]
  have lkk : (bk l).map (·.1) = l.map (·.1) := by
    unfold bk
    rw [List.map_map]; rfl
  have Ll : (l.map (·.1)).length ≤ 1000 := by rw [keys_len]; omega
  generalize bk l = kvs at *
  generalize l.map (·.1) = ks at *
  have l1 : evE pgm C (.lc (.var 5) (.nm 5) .eachD [(.var 2)] [] [5]) [some (enc a), some (enc b), some (.dict kvs), A3, A4, none] = .ok (.list (ks.map fun x => x)) [some (enc a), some (enc b), some (.dict kvs), A3, A4, none] := by
    refine lc_all (os := [.inl (.dict kvs)]) (ds := [.dict kvs]) (items := ks) (by simp only [ex_0, ex_1, ex_asg, ex_asgO, ex_setI, ex_aug, ex_augI, ex_exp, ex_ite, ex_ret, ex_retO, ex_retN, ev_non, ev_bl, ev_int, ev_str, ew_var, ew_mv, ev_tup, ev_lst, ev_op, ev_not, ev_ite, ev_call, ev_dic, ev_and0, ev_and1, ev_or0, ev_or1, ev_es0, ev_es1, ev_os0, ev_osO, ev_osB, os_non, os_bl, os_int, os_str, os_var, os_mv, os_tup, os_lst, os_op, os_ite, os_call, os_not, os_mm, os_get, os_lc, os_dc, os_sortk, os_callk, ev_if0, ev_if1, ev_mm, ev_get, b_ok, t_ok, ab_ok, op_0, op_1, call_1, see, seeO, setS, setTg, setAll, startR, List.getElem?_cons_zero, List.getElem?_cons_succ, List.getElem?_nil, List.set_cons_zero, List.set_cons_succ, List.set_nil, List.length_cons, List.length_nil, List.map_cons, List.map_nil, List.cons_append, List.nil_append, List.replicate, Option.map_some, List.tail_cons, prim, callR, giveOf, putBack, kd_0, kd_1, kd_2, kd_3, kd_4, kd_5, kd_6, kd_7, kd_8, kd_9, kd_10, kd_11, kd_12, kd_13, kd_14, kd_15, kd_16, kd_17, kd_18, kd_19, kd_20, kd_21, kd_22, kd_23]) rfl (by rw [← lkk]; rfl) (fun d hd => ⟨[some (enc a), some (enc b), some (.dict kvs), A3, A4, some d], rfl, rfl, ?_⟩) rfl (by unfold sizeLine; omega)
    simp only [ex_0, ex_1, ex_asg, ex_asgO, ex_setI, ex_aug, ex_augI, ex_exp, ex_ite, ex_ret, ex_retO, ex_retN, ev_non, ev_bl, ev_int, ev_str, ew_var, ew_mv, ev_tup, ev_lst, ev_op, ev_not, ev_ite, ev_call, ev_dic, ev_and0, ev_and1, ev_or0, ev_or1, ev_es0, ev_es1, ev_os0, ev_osO, ev_osB, os_non, os_bl, os_int, os_str, os_var, os_mv, os_tup, os_lst, os_op, os_ite, os_call, os_not, os_mm, os_get, os_lc, os_dc, os_sortk, os_callk, ev_if0, ev_if1, ev_mm, ev_get, b_ok, t_ok, ab_ok, op_0, op_1, call_1, see, seeO, setS, setTg, setAll, startR, List.getElem?_cons_zero, List.getElem?_cons_succ, List.getElem?_nil, List.set_cons_zero, List.set_cons_succ, List.set_nil, List.length_cons, List.length_nil, List.map_cons, List.map_nil, List.cons_append, List.nil_append, List.replicate, Option.map_some, List.tail_cons, prim, callR, giveOf, putBack, kd_0, kd_1, kd_2, kd_3, kd_4, kd_5, kd_6, kd_7, kd_8, kd_9, kd_10, kd_11, kd_12, kd_13, kd_14, kd_15, kd_16, kd_17, kd_18, kd_19, kd_20, kd_21, kd_22, kd_23]
  have l2 : evE pgm C (.lc (.tup [(.var 3), (.op .idx [(.var 2), (.var 3)])]) (.nm 3) .each [(.call 13 [(.lc (.var 5) (.nm 5) .eachD [(.var 2)] [] [5])])] [] [3]) [some (enc a), some (enc b), some (.dict kvs), A3, A4, none] =
      .ok (.list (out.map fun k => encP (k, g k))) [some (enc a), some (enc b), some (.dict kvs), A3, A4, none] := by
    refine lc_all (os := [.inl (.list out)]) (ds := [.list out]) (items := out) (by simp only [ex_0, ex_1, ex_asg, ex_asgO, ex_setI, ex_aug, ex_augI, ex_exp, ex_ite, ex_ret, ex_retO, ex_retN, ev_non, ev_bl, ev_int, ev_str, ew_var, ew_mv, ev_tup, ev_lst, ev_op, ev_not, ev_ite, ev_call, ev_dic, ev_and0, ev_and1, ev_or0, ev_or1, ev_es0, ev_es1, ev_os0, ev_osO, ev_osB, os_non, os_bl, os_int, os_str, os_var, os_mv, os_tup, os_lst, os_op, os_ite, os_call, os_not, os_mm, os_get, os_lc, os_dc, os_sortk, os_callk, ev_if0, ev_if1, ev_mm, ev_get, b_ok, t_ok, ab_ok, op_0, op_1, call_1, see, seeO, setS, setTg, setAll, startR, List.getElem?_cons_zero, List.getElem?_cons_succ, List.getElem?_nil, List.set_cons_zero, List.set_cons_succ, List.set_nil, List.length_cons, List.length_nil, List.map_cons, List.map_nil, List.cons_append, List.nil_append, List.replicate, Option.map_some, List.tail_cons, prim, callR, giveOf, putBack, kd_0, kd_1, kd_2, kd_3, kd_4, kd_5, kd_6, kd_7, kd_8, kd_9, kd_10, kd_11, kd_12, kd_13, kd_14, kd_15, kd_16, kd_17, kd_18, kd_19, kd_20, kd_21, kd_22, kd_23, l1, List.map_id', o1]) rfl rfl (fun d hd => ⟨[some (enc a), some (enc b), some (.dict kvs), some d, A4, none], rfl, rfl, ?_⟩) rfl (by unfold sizeLine; omega)
    simp only [ex_0, ex_1, ex_asg, ex_asgO, ex_setI, ex_aug, ex_augI, ex_exp, ex_ite, ex_ret, ex_retO, ex_retN, ev_non, ev_bl, ev_int, ev_str, ew_var, ew_mv, ev_tup, ev_lst, ev_op, ev_not, ev_ite, ev_call, ev_dic, ev_and0, ev_and1, ev_or0, ev_or1, ev_es0, ev_es1, ev_os0, ev_osO, ev_osB, os_non, os_bl, os_int, os_str, os_var, os_mv, os_tup, os_lst, os_op, os_ite, os_call, os_not, os_mm, os_get, os_lc, os_dc, os_sortk, os_callk, ev_if0, ev_if1, ev_mm, ev_get, b_ok, t_ok, ab_ok, op_0, op_1, call_1, see, seeO, setS, setTg, setAll, startR, List.getElem?_cons_zero, List.getElem?_cons_succ, List.getElem?_nil, List.set_cons_zero, List.set_cons_succ, List.set_nil, List.length_cons, List.length_nil, List.map_cons, List.map_nil, List.cons_append, List.nil_append, List.replicate, Option.map_some, List.tail_cons, prim, callR, giveOf, putBack, kd_0, kd_1, kd_2, kd_3, kd_4, kd_5, kd_6, kd_7, kd_8, kd_9, kd_10, kd_11, kd_12, kd_13, kd_14, kd_15, kd_16, kd_17, kd_18, kd_19, kd_20, kd_21, kd_22, kd_23, at_ d hd, Nat.reduceAdd, ft0, ft1, ft2, ft3, ft4, ft5, ft6, ft7, ft8, ft9, ft10, if_true]
    rfl
  have e3 : out.map (fun k => encP (k, g k)) = (out.map fun k => (k, g k)).map encP := by rw [List.map_map]; rfl
  rw [e3] at l2
  have s0 : exS pgm C (.asgO 2 (.dic [] [])) (startR fi_18 [enc a, enc b]) = .nx [some (enc a), some (enc b), some (.dict []), none, none, none] := by
    show exS pgm C (.asgO 2 (.dic [] [])) [some (enc a), some (enc b), none, none, none, none] = _
    simp only [ex_0, ex_1, ex_asg, ex_asgO, ex_setI, ex_aug, ex_augI, ex_exp, ex_ite, ex_ret, ex_retO, ex_retN, ev_non, ev_bl, ev_int, ev_str, ew_var, ew_mv, ev_tup, ev_lst, ev_op, ev_not, ev_ite, ev_call, ev_dic, ev_and0, ev_and1, ev_or0, ev_or1, ev_es0, ev_es1, ev_os0, ev_osO, ev_osB, os_non, os_bl, os_int, os_str, os_var, os_mv, os_tup, os_lst, os_op, os_ite, os_call, os_not, os_mm, os_get, os_lc, os_dc, os_sortk, os_callk, ev_if0, ev_if1, ev_mm, ev_get, b_ok, t_ok, ab_ok, op_0, op_1, call_1, see, seeO, setS, setTg, setAll, startR, List.getElem?_cons_zero, List.getElem?_cons_succ, List.getElem?_nil, List.set_cons_zero, List.set_cons_succ, List.set_nil, List.length_cons, List.length_nil, List.map_cons, List.map_nil, List.cons_append, List.nil_append, List.replicate, Option.map_some, List.tail_cons, prim, callR, giveOf, putBack, kd_0, kd_1, kd_2, kd_3, kd_4, kd_5, kd_6, kd_7, kd_8, kd_9, kd_10, kd_11, kd_12, kd_13, kd_14, kd_15, kd_16, kd_17, kd_18, kd_19, kd_20, kd_21, kd_22, kd_23, isTopD, if_true]
  have sf : exS pgm C (.for_ (.tp [3, 4]) .each [(.op .add [(.var 0), (.var 1)])] [(.setI 2 (.var 3) (.op .add [(.get 2 [(.var 3), (.int 0)]), (.var 4)]))]) [some (enc a), some (enc b), some (.dict []), none, none, none] = .nx [some (enc a), some (enc b), some (.dict kvs), A3, A4, none] := by
    rw [ex_for (os := [.inl (.tuple ((a ++ b).map encP))]) (ρ1 := [some (enc a), some (enc b), some (.dict []), none, none, none]) (ds := [.tuple ((a ++ b).map encP)]) (items := (a ++ b).map encP) (by simp only [ex_0, ex_1, ex_asg, ex_asgO, ex_setI, ex_aug, ex_augI, ex_exp, ex_ite, ex_ret, ex_retO, ex_retN, ev_non, ev_bl, ev_int, ev_str, ew_var, ew_mv, ev_tup, ev_lst, ev_op, ev_not, ev_ite, ev_call, ev_dic, ev_and0, ev_and1, ev_or0, ev_or1, ev_es0, ev_es1, ev_os0, ev_osO, ev_osB, os_non, os_bl, os_int, os_str, os_var, os_mv, os_tup, os_lst, os_op, os_ite, os_call, os_not, os_mm, os_get, os_lc, os_dc, os_sortk, os_callk, ev_if0, ev_if1, ev_mm, ev_get, b_ok, t_ok, ab_ok, op_0, op_1, call_1, see, seeO, setS, setTg, setAll, startR, List.getElem?_cons_zero, List.getElem?_cons_succ, List.getElem?_nil, List.set_cons_zero, List.set_cons_succ, List.set_nil, List.length_cons, List.length_nil, List.map_cons, List.map_nil, List.cons_append, List.nil_append, List.replicate, Option.map_some, List.tail_cons, prim, callR, giveOf, putBack, kd_0, kd_1, kd_2, kd_3, kd_4, kd_5, kd_6, kd_7, kd_8, kd_9, kd_10, kd_11, kd_12, kd_13, kd_14, kd_15, kd_16, kd_17, kd_18, kd_19, kd_20, kd_21, kd_22, kd_23, ad]) rfl rfl]
    show (forL _ _ _ [some (enc a), some (enc b), some (.dict []), none, none, none]).map id = _
    rw [hf]
    rfl
  have er : exS pgm C (.retZ 2 (.op .tup1 [(.lc (.tup [(.var 3), (.op .idx [(.var 2), (.var 3)])]) (.nm 3) .each [(.call 13 [(.lc (.var 5) (.nm 5) .eachD [(.var 2)] [] [5])])] [] [3])])) [some (enc a), some (enc b), some (.dict kvs), A3, A4, none] = .ret (enc (out.map fun k => (k, g k))) [some (enc a), some (enc b), none, A3, A4, none] := by
    refine ex_retZ (ρ1 := [some (enc a), some (enc b), some (.dict kvs), A3, A4, none]) (d0 := .dict kvs) rfl ?_
    generalize (out.map fun k => (k, g k)) = s at l2 ⊢
    simp only [ex_0, ex_1, ex_asg, ex_asgO, ex_setI, ex_aug, ex_augI, ex_exp, ex_ite, ex_ret, ex_retO, ex_retN, ev_non, ev_bl, ev_int, ev_str, ew_var, ew_mv, ev_tup, ev_lst, ev_op, ev_not, ev_ite, ev_call, ev_dic, ev_and0, ev_and1, ev_or0, ev_or1, ev_es0, ev_es1, ev_os0, ev_osO, ev_osB, os_non, os_bl, os_int, os_str, os_var, os_mv, os_tup, os_lst, os_op, os_ite, os_call, os_not, os_mm, os_get, os_lc, os_dc, os_sortk, os_callk, ev_if0, ev_if1, ev_mm, ev_get, b_ok, t_ok, ab_ok, op_0, op_1, call_1, see, seeO, setS, setTg, setAll, startR, List.getElem?_cons_zero, List.getElem?_cons_succ, List.getElem?_nil, List.set_cons_zero, List.set_cons_succ, List.set_nil, List.length_cons, List.length_nil, List.map_cons, List.map_nil, List.cons_append, List.nil_append, List.replicate, Option.map_some, List.tail_cons, prim, callR, giveOf, putBack, kd_0, kd_1, kd_2, kd_3, kd_4, kd_5, kd_6, kd_7, kd_8, kd_9, kd_10, kd_11, kd_12, kd_13, kd_14, kd_15, kd_16, kd_17, kd_18, kd_19, kd_20, kd_21, kd_22, kd_23, l2, pTup1]
    rfl
  rw [show fi_18.body = [(.asgO 2 (.dic [] [])), (.for_ (.tp [3, 4]) .each [(.op .add [(.var 0), (.var 1)])] [(.setI 2 (.var 3) (.op .add [(.get 2 [(.var 3), (.int 0)]), (.var 4)]))]), (.retZ 2 (.op .tup1 [(.lc (.tup [(.var 3), (.op .idx [(.var 2), (.var 3)])]) (.nm 3) .each [(.call 13 [(.lc (.var 5) (.nm 5) .eachD [(.var 2)] [] [5])])] [] [3])]))] from rfl]
  simp only [ex_1, s0, sf, er]
  rfl
/-! what the program checks -/
theorem c_checked (n : Nat) {P : D → Prop} {t : Ty} {q : Nat} (K : Kf P t q) {l : List (D × Int)} (hP : ∀ p ∈ l, P p.1) (nd : (l.map (·.1)).Nodup) (hl : l.length ≤ 400) (hc : ∀ p ∈ l, p.2 ≤ 1000000000000000000) : ∃ s : List (D × Int), callF pgm (n + 1) 1 [.dict (bk l)] = .ret (enc s) [] ∧ s.Perm l ∧ Srt (s.map (·.1)) := by
  rw [callF_at (fi := fi_1) rfl rfl]
  generalize callF pgm n = C
  have ty : ∀ p ∈ l, isT t p.1 = true := fun p hp => K.ty _ (hP p hp)
  have dp := K.dp
  obtain ⟨s, p1, p2, p3⟩ := sort_pairs (t := t) (by omega) ty nd (by omega)
  refine ⟨s, ?_, p1, p2⟩
  have bl : (bk l).length = l.length := List.length_map _
  obtain ⟨g, hg⟩ : ∃ g : D → Int, g = fun k => (getL k l).getD 0 := ⟨_, rfl⟩
  have gv : ∀ p ∈ l, g p.1 = p.2 := fun p hp => by rw [hg]; show (getL p.1 l).getD 0 = p.2; rw [get_of nd (show (p.1, p.2) ∈ l from hp)]; rfl
  have e0 : decide ((400 : Int) < (((bk l).length : Nat) : Int)) = false := decide_eq_false (by omega)
  have s1 : exS pgm C (.ite (.op .gt [(.op .len [(.bor 0)]), (.glo 0)]) [(.delI 0 .non)] []) [some (.dict (bk l)), none] = .nx [some (.dict (bk l)), none] := by
    simp only [ex_0, ex_1, ex_asg, ex_asgO, ex_setI, ex_aug, ex_augI, ex_exp, ex_ite, ex_ret, ex_retO, ex_retN, ev_non, ev_bl, ev_int, ev_str, ew_var, ew_mv, ev_tup, ev_lst, ev_op, ev_not, ev_ite, ev_call, ev_dic, ev_and0, ev_and1, ev_or0, ev_or1, ev_es0, ev_es1, ev_os0, ev_osO, ev_osB, os_non, os_bl, os_int, os_str, os_var, os_mv, os_tup, os_lst, os_op, os_ite, os_call, os_not, os_mm, os_get, os_lc, os_dc, os_sortk, os_callk, ev_if0, ev_if1, ev_mm, ev_get, b_ok, t_ok, ab_ok, op_0, op_1, call_1, see, seeO, setS, setTg, setAll, startR, List.getElem?_cons_zero, List.getElem?_cons_succ, List.getElem?_nil, List.set_cons_zero, List.set_cons_succ, List.set_nil, List.length_cons, List.length_nil, List.map_cons, List.map_nil, List.cons_append, List.nil_append, List.replicate, Option.map_some, List.tail_cons, prim, callR, giveOf, putBack, kd_0, kd_1, kd_2, kd_3, kd_4, kd_5, kd_6, kd_7, kd_8, kd_9, kd_10, kd_11, kd_12, kd_13, kd_14, kd_15, kd_16, kd_17, kd_18, kd_19, kd_20, kd_21, kd_22, kd_23, os_glo, ev_glo0, pLen, pGt_int, e0, if_false, Bool.false_eq_true]
  have lkk : (bk l).map (·.1) = l.map (·.1) := by
    unfold bk
    rw [List.map_map]; rfl
  obtain ⟨ks, hks⟩ : ∃ ks, ks = l.map (·.1) := ⟨_, rfl⟩
  have ksl : ks.length ≤ 400 := by rw [hks, keys_len]; exact hl
  rw [← hks] at lkk
  have l1 : evE pgm C (.lc (.tup [(.var 1), (.op .min2 [(.op .idx [(.var 0), (.var 1)]), (.glo 1)])]) (.nm 1) .eachD [(.var 0)] [] [1]) [some (.dict (bk l)), none] = .ok (.list (ks.map fun k => encP (k, g k))) [some (.dict (bk l)), none] := by
    refine lc_all (os := [.inl (.dict (bk l))]) (ds := [.dict (bk l)]) (items := ks) (by simp only [ex_0, ex_1, ex_asg, ex_asgO, ex_setI, ex_aug, ex_augI, ex_exp, ex_ite, ex_ret, ex_retO, ex_retN, ev_non, ev_bl, ev_int, ev_str, ew_var, ew_mv, ev_tup, ev_lst, ev_op, ev_not, ev_ite, ev_call, ev_dic, ev_and0, ev_and1, ev_or0, ev_or1, ev_es0, ev_es1, ev_os0, ev_osO, ev_osB, os_non, os_bl, os_int, os_str, os_var, os_mv, os_tup, os_lst, os_op, os_ite, os_call, os_not, os_mm, os_get, os_lc, os_dc, os_sortk, os_callk, ev_if0, ev_if1, ev_mm, ev_get, b_ok, t_ok, ab_ok, op_0, op_1, call_1, see, seeO, setS, setTg, setAll, startR, List.getElem?_cons_zero, List.getElem?_cons_succ, List.getElem?_nil, List.set_cons_zero, List.set_cons_succ, List.set_nil, List.length_cons, List.length_nil, List.map_cons, List.map_nil, List.cons_append, List.nil_append, List.replicate, Option.map_some, List.tail_cons, prim, callR, giveOf, putBack, kd_0, kd_1, kd_2, kd_3, kd_4, kd_5, kd_6, kd_7, kd_8, kd_9, kd_10, kd_11, kd_12, kd_13, kd_14, kd_15, kd_16, kd_17, kd_18, kd_19, kd_20, kd_21, kd_22, kd_23]) rfl (by rw [← lkk]; rfl) (fun k hk => ⟨[some (.dict (bk l)), some k], rfl, rfl, ?_⟩) rfl (by unfold sizeLine; omega)
    rw [hks] at hk
    obtain ⟨p, hp, rfl⟩ := List.mem_map.mp hk
    have ix := bk_idx K (hP p hp) hP nd hp
    have c2 := hc p hp
    have fb := fg_big
    have mn : pMin2 [.int p.2, .int FG] = some (.int p.2) := by
      show some (PyData.int (if FG < p.2 then FG else p.2)) = _
      rw [if_neg (by omega)]
    rw [gv p hp]
    generalize bk l = kvs at *
    simp only [ex_0, ex_1, ex_asg, ex_asgO, ex_setI, ex_aug, ex_augI, ex_exp, ex_ite, ex_ret, ex_retO, ex_retN, ev_non, ev_bl, ev_int, ev_str, ew_var, ew_mv, ev_tup, ev_lst, ev_op, ev_not, ev_ite, ev_call, ev_dic, ev_and0, ev_and1, ev_or0, ev_or1, ev_es0, ev_es1, ev_os0, ev_osO, ev_osB, os_non, os_bl, os_int, os_str, os_var, os_mv, os_tup, os_lst, os_op, os_ite, os_call, os_not, os_mm, os_get, os_lc, os_dc, os_sortk, os_callk, ev_if0, ev_if1, ev_mm, ev_get, b_ok, t_ok, ab_ok, op_0, op_1, call_1, see, seeO, setS, setTg, setAll, startR, List.getElem?_cons_zero, List.getElem?_cons_succ, List.getElem?_nil, List.set_cons_zero, List.set_cons_succ, List.set_nil, List.length_cons, List.length_nil, List.map_cons, List.map_nil, List.cons_append, List.nil_append, List.replicate, Option.map_some, List.tail_cons, prim, callR, giveOf, putBack, kd_0, kd_1, kd_2, kd_3, kd_4, kd_5, kd_6, kd_7, kd_8, kd_9, kd_10, kd_11, kd_12, kd_13, kd_14, kd_15, kd_16, kd_17, kd_18, kd_19, kd_20, kd_21, kd_22, kd_23, os_glo, ev_glo1, ix, mn, Nat.reduceAdd, ft0, ft1, ft2, ft3, ft4, ft5, ft6, ft7, ft8, ft9, ft10, if_true]
    rfl
  have e1 : ks.map (fun k => encP (k, g k)) = l.map encP := by
    rw [hks, List.map_map]
    refine List.map_congr_left fun p hp => ?_
    show encP (p.1, g p.1) = encP p
    rw [gv p hp]
  rw [e1] at l1
  have fl : flatD (enc s) = true := by
    refine flat_T (.seq (.pair t .int)) _ (isT_mk_seq fun x hx => ?_)
    obtain ⟨p, hp, rfl⟩ := List.mem_map.mp hx
    exact encP_T (ty p (p1.mem_iff.mp hp))
  have l2 : evE pgm C (.op .tup1 [(.op .sort1 [(.lc (.tup [(.var 1), (.op .min2 [(.op .idx [(.var 0), (.var 1)]), (.glo 1)])]) (.nm 1) .eachD [(.var 0)] [] [1])])]) [some (.dict (bk l)), none] = .ok (enc s) [some (.dict (bk l)), none] := by
    generalize bk l = kvs at *
    simp only [ex_0, ex_1, ex_asg, ex_asgO, ex_setI, ex_aug, ex_augI, ex_exp, ex_ite, ex_ret, ex_retO, ex_retN, ev_non, ev_bl, ev_int, ev_str, ew_var, ew_mv, ev_tup, ev_lst, ev_op, ev_not, ev_ite, ev_call, ev_dic, ev_and0, ev_and1, ev_or0, ev_or1, ev_es0, ev_es1, ev_os0, ev_osO, ev_osB, os_non, os_bl, os_int, os_str, os_var, os_mv, os_tup, os_lst, os_op, os_ite, os_call, os_not, os_mm, os_get, os_lc, os_dc, os_sortk, os_callk, ev_if0, ev_if1, ev_mm, ev_get, b_ok, t_ok, ab_ok, op_0, op_1, call_1, see, seeO, setS, setTg, setAll, startR, List.getElem?_cons_zero, List.getElem?_cons_succ, List.getElem?_nil, List.set_cons_zero, List.set_cons_succ, List.set_nil, List.length_cons, List.length_nil, List.map_cons, List.map_nil, List.cons_append, List.nil_append, List.replicate, Option.map_some, List.tail_cons, prim, callR, giveOf, putBack, kd_0, kd_1, kd_2, kd_3, kd_4, kd_5, kd_6, kd_7, kd_8, kd_9, kd_10, kd_11, kd_12, kd_13, kd_14, kd_15, kd_16, kd_17, kd_18, kd_19, kd_20, kd_21, kd_22, kd_23, l1, p3, pTup1]
    rfl
  have l3 := lk_of (i := 0) (hs := []) (ρ := [some (.dict (bk l)), none]) (d0 := .dict (bk l)) rfl l2 fl
  show endOf pgm 1 (exSs pgm C [(.ite (.op .gt [(.op .len [(.bor 0)]), (.glo 0)]) [(.delI 0 .non)] []), (.ret (.lk 0 [] (.op .tup1 [(.op .sort1 [(.lc (.tup [(.var 1), (.op .min2 [(.op .idx [(.var 0), (.var 1)]), (.glo 1)])]) (.nm 1) .eachD [(.var 0)] [] [1])])])))] [some (.dict (bk l)), none]) = _
  rw [ex_1, s1]
  simp only []
  rw [ex_1, ex_ret, l3, t_ok]
  rfl
theorem c_need (n : Nat) {m : Nat} {e : Int} {p : List (D × Int)} (hk : ∀ q ∈ p, MonoC m e q.1) (hm : m ≤ 1000) (he : e ≤ 1000000) (hc : ∀ q ∈ p, q.2 ≤ 1000000000000000000) : callF pgm (n + 1) 2 [enc p] = .ret (enc p) [] := by
  rw [callF_at (fi := fi_2) rfl rfl]
  generalize callF pgm n = C
  have fb := fg_big
  obtain ⟨ρ', hf, A1, A2, rfl⟩ : ∃ ρ', forL (fun r => exSs pgm C [(.ite (.or [(.op .ge [(.var 2), (.glo 1)]), (.op .any1 [(.lc (.op .ge [(.var 4), (.glo 1)]) (.tp [3, 4]) .each [(.var 1)] [] [3, 4])])]) [(.delI 0 .non)] [])] r) (.tp [1, 2]) (p.map encP) [some (enc p), none, none, none, none] = .nx ρ' ∧ ∃ A1 A2 : Option D, ρ' = [some (enc p), A1, A2, none, none] := by
    refine forL_nx (fun pre ρ => ∃ A1 A2 : Option D, ρ = [some (enc p), A1, A2, none, none]) _ _ ⟨none, none, rfl⟩ ?_
    rintro pre d post ρ hd ⟨A1, A2, rfl⟩
    have hd : d ∈ p.map encP := by rw [hd]; simp
    obtain ⟨q, hq, rfl⟩ := List.mem_map.mp hd
    obtain ⟨a, ea, ha⟩ := hk q hq
    have al := ha.len
    have c1 : decide (q.2 < FG) = true := decide_eq_true (by have := hc q hq; omega)
    have l1 : evE pgm C (.lc (.op .ge [(.var 4), (.glo 1)]) (.tp [3, 4]) .each [(.var 1)] [] [3, 4]) [some (enc p), some (enc a), some (.int q.2), none, none] = .ok (.list ((a.map encP).map fun _ => .bool false)) [some (enc p), some (enc a), some (.int q.2), none, none] := by
      refine lc_all (os := [.inl (enc a)]) (ds := [enc a]) (items := a.map encP) (by simp only [ex_0, ex_1, ex_asg, ex_asgO, ex_setI, ex_aug, ex_augI, ex_exp, ex_ite, ex_ret, ex_retO, ex_retN, ev_non, ev_bl, ev_int, ev_str, ew_var, ew_mv, ev_tup, ev_lst, ev_op, ev_not, ev_ite, ev_call, ev_dic, ev_and0, ev_and1, ev_or0, ev_or1, ev_es0, ev_es1, ev_os0, ev_osO, ev_osB, os_non, os_bl, os_int, os_str, os_var, os_mv, os_tup, os_lst, os_op, os_ite, os_call, os_not, os_mm, os_get, os_lc, os_dc, os_sortk, os_callk, ev_if0, ev_if1, ev_mm, ev_get, b_ok, t_ok, ab_ok, op_0, op_1, call_1, see, seeO, setS, setTg, setAll, startR, List.getElem?_cons_zero, List.getElem?_cons_succ, List.getElem?_nil, List.set_cons_zero, List.set_cons_succ, List.set_nil, List.length_cons, List.length_nil, List.map_cons, List.map_nil, List.cons_append, List.nil_append, List.replicate, Option.map_some, List.tail_cons, prim, callR, giveOf, putBack, kd_0, kd_1, kd_2, kd_3, kd_4, kd_5, kd_6, kd_7, kd_8, kd_9, kd_10, kd_11, kd_12, kd_13, kd_14, kd_15, kd_16, kd_17, kd_18, kd_19, kd_20, kd_21, kd_22, kd_23]) rfl rfl (fun z hz => ?_) rfl (by rw [List.length_map]; unfold sizeLine; omega)
      obtain ⟨r, hr, rfl⟩ := List.mem_map.mp hz
      have c2 : decide (r.2 < FG) = true := decide_eq_true (by have := (mem_tot ha.can.pos).2 r hr; have := ha.tot; omega)
      refine ⟨[some (enc p), some (enc a), some (.int q.2), some r.1, some (.int r.2)], rfl, rfl, ?_⟩
      simp only [ex_0, ex_1, ex_asg, ex_asgO, ex_setI, ex_aug, ex_augI, ex_exp, ex_ite, ex_ret, ex_retO, ex_retN, ev_non, ev_bl, ev_int, ev_str, ew_var, ew_mv, ev_tup, ev_lst, ev_op, ev_not, ev_ite, ev_call, ev_dic, ev_and0, ev_and1, ev_or0, ev_or1, ev_es0, ev_es1, ev_os0, ev_osO, ev_osB, os_non, os_bl, os_int, os_str, os_var, os_mv, os_tup, os_lst, os_op, os_ite, os_call, os_not, os_mm, os_get, os_lc, os_dc, os_sortk, os_callk, ev_if0, ev_if1, ev_mm, ev_get, b_ok, t_ok, ab_ok, op_0, op_1, call_1, see, seeO, setS, setTg, setAll, startR, List.getElem?_cons_zero, List.getElem?_cons_succ, List.getElem?_nil, List.set_cons_zero, List.set_cons_succ, List.set_nil, List.length_cons, List.length_nil, List.map_cons, List.map_nil, List.cons_append, List.nil_append, List.replicate, Option.map_some, List.tail_cons, prim, callR, giveOf, putBack, kd_0, kd_1, kd_2, kd_3, kd_4, kd_5, kd_6, kd_7, kd_8, kd_9, kd_10, kd_11, kd_12, kd_13, kd_14, kd_15, kd_16, kd_17, kd_18, kd_19, kd_20, kd_21, kd_22, kd_23, os_glo, ev_glo1, pGe_int, c2, Bool.not_true]
    have an : pAny1 [.list ((a.map encP).map fun _ => .bool false)] = some (.bool false) := by
      rw [pAny_map (f := fun _ => false)]
      simp
    have ea' : q.1 = enc a := ea
    refine ⟨[some (enc p), some (enc a), some (.int q.2), none, none], [some (enc p), some (enc a), some (.int q.2), none, none], by rw [← ea']; rfl, .inl ?_, some (enc a), some (.int q.2), rfl⟩
    generalize ((a.map encP).map fun _ => PyData.bool false) = L at l1 an
    simp only [ex_0, ex_1, ex_asg, ex_asgO, ex_setI, ex_aug, ex_augI, ex_exp, ex_ite, ex_ret, ex_retO, ex_retN, ev_non, ev_bl, ev_int, ev_str, ew_var, ew_mv, ev_tup, ev_lst, ev_op, ev_not, ev_ite, ev_call, ev_dic, ev_and0, ev_and1, ev_or0, ev_or1, ev_es0, ev_es1, ev_os0, ev_osO, ev_osB, os_non, os_bl, os_int, os_str, os_var, os_mv, os_tup, os_lst, os_op, os_ite, os_call, os_not, os_mm, os_get, os_lc, os_dc, os_sortk, os_callk, ev_if0, ev_if1, ev_mm, ev_get, b_ok, t_ok, ab_ok, op_0, op_1, call_1, see, seeO, setS, setTg, setAll, startR, List.getElem?_cons_zero, List.getElem?_cons_succ, List.getElem?_nil, List.set_cons_zero, List.set_cons_succ, List.set_nil, List.length_cons, List.length_nil, List.map_cons, List.map_nil, List.cons_append, List.nil_append, List.replicate, Option.map_some, List.tail_cons, prim, callR, giveOf, putBack, kd_0, kd_1, kd_2, kd_3, kd_4, kd_5, kd_6, kd_7, kd_8, kd_9, kd_10, kd_11, kd_12, kd_13, kd_14, kd_15, kd_16, kd_17, kd_18, kd_19, kd_20, kd_21, kd_22, kd_23, os_glo, ev_glo1, pGe_int, c1, Bool.not_true, l1, an, if_false, Bool.false_eq_true]
  have sf : exS pgm C (.for_ (.tp [1, 2]) .each [(.var 0)] [(.ite (.or [(.op .ge [(.var 2), (.glo 1)]), (.op .any1 [(.lc (.op .ge [(.var 4), (.glo 1)]) (.tp [3, 4]) .each [(.var 1)] [] [3, 4])])]) [(.delI 0 .non)] [])]) [some (enc p), none, none, none, none] = .nx [some (enc p), A1, A2, none, none] := by
    rw [ex_for (os := [.inl (enc p)]) (ρ1 := [some (enc p), none, none, none, none]) (ds := [enc p]) (items := p.map encP) (by simp only [ex_0, ex_1, ex_asg, ex_asgO, ex_setI, ex_aug, ex_augI, ex_exp, ex_ite, ex_ret, ex_retO, ex_retN, ev_non, ev_bl, ev_int, ev_str, ew_var, ew_mv, ev_tup, ev_lst, ev_op, ev_not, ev_ite, ev_call, ev_dic, ev_and0, ev_and1, ev_or0, ev_or1, ev_es0, ev_es1, ev_os0, ev_osO, ev_osB, os_non, os_bl, os_int, os_str, os_var, os_mv, os_tup, os_lst, os_op, os_ite, os_call, os_not, os_mm, os_get, os_lc, os_dc, os_sortk, os_callk, ev_if0, ev_if1, ev_mm, ev_get, b_ok, t_ok, ab_ok, op_0, op_1, call_1, see, seeO, setS, setTg, setAll, startR, List.getElem?_cons_zero, List.getElem?_cons_succ, List.getElem?_nil, List.set_cons_zero, List.set_cons_succ, List.set_nil, List.length_cons, List.length_nil, List.map_cons, List.map_nil, List.cons_append, List.nil_append, List.replicate, Option.map_some, List.tail_cons, prim, callR, giveOf, putBack, kd_0, kd_1, kd_2, kd_3, kd_4, kd_5, kd_6, kd_7, kd_8, kd_9, kd_10, kd_11, kd_12, kd_13, kd_14, kd_15, kd_16, kd_17, kd_18, kd_19, kd_20, kd_21, kd_22, kd_23]) rfl rfl]
    show (forL _ _ _ [some (enc p), none, none, none, none]).map id = _
    rw [hf]
    rfl
  show endOf pgm 2 (exSs pgm C fi_2.body [some (enc p), none, none, none, none]) = _
  rw [show fi_2.body = [(.for_ (.tp [1, 2]) .each [(.var 0)] [(.ite (.or [(.op .ge [(.var 2), (.glo 1)]), (.op .any1 [(.lc (.op .ge [(.var 4), (.glo 1)]) (.tp [3, 4]) .each [(.var 1)] [] [3, 4])])]) [(.delI 0 .non)] [])]), (.ret (.var 0))] from rfl]
  simp only [ex_1, sf]
  simp only [ex_0, ex_1, ex_asg, ex_asgO, ex_setI, ex_aug, ex_augI, ex_exp, ex_ite, ex_ret, ex_retO, ex_retN, ev_non, ev_bl, ev_int, ev_str, ew_var, ew_mv, ev_tup, ev_lst, ev_op, ev_not, ev_ite, ev_call, ev_dic, ev_and0, ev_and1, ev_or0, ev_or1, ev_es0, ev_es1, ev_os0, ev_osO, ev_osB, os_non, os_bl, os_int, os_str, os_var, os_mv, os_tup, os_lst, os_op, os_ite, os_call, os_not, os_mm, os_get, os_lc, os_dc, os_sortk, os_callk, ev_if0, ev_if1, ev_mm, ev_get, b_ok, t_ok, ab_ok, op_0, op_1, call_1, see, seeO, setS, setTg, setAll, startR, List.getElem?_cons_zero, List.getElem?_cons_succ, List.getElem?_nil, List.set_cons_zero, List.set_cons_succ, List.set_nil, List.length_cons, List.length_nil, List.map_cons, List.map_nil, List.cons_append, List.nil_append, List.replicate, Option.map_some, List.tail_cons, prim, callR, giveOf, putBack, kd_0, kd_1, kd_2, kd_3, kd_4, kd_5, kd_6, kd_7, kd_8, kd_9, kd_10, kd_11, kd_12, kd_13, kd_14, kd_15, kd_16, kd_17, kd_18, kd_19, kd_20, kd_21, kd_22, kd_23, endOf, givenOf]
theorem c_frozen (n : Nat) {m : Nat} {e : Int} {p : List (D × Int)} (hk : ∀ q ∈ p, MonoC m e q.1) (hm : m ≤ 1000) (hl : p.length ≤ 1000) : callF pgm (n + 1) 0 [enc p] = .ret (enc p) [] := by
  rw [callF_at (fi := fi_0) rfl rfl]
  generalize callF pgm n = C
  obtain ⟨L, hL⟩ : ∃ L, L = p.map encP := ⟨_, rfl⟩
  have Ll : L.length ≤ 1000 := by rw [hL, List.length_map]; exact hl
  have hq : ∀ d ∈ L, ∃ (a : List (D × Int)) (c : Int), d = .tuple [enc a, .int c] ∧ a.length ≤ 1000 := fun d hd => by
    rw [hL] at hd
    obtain ⟨q, hq, rfl⟩ := List.mem_map.mp hd
    obtain ⟨a, ea, ha⟩ := hk q hq
    exact ⟨a, q.2, by rw [← ea]; rfl, by have := ha.len; omega⟩
  show endOf pgm 0 (exSs pgm C fi_0.body (startR fi_0 [.tuple (p.map encP)])) = .ret (.tuple (p.map encP)) []
  rw [← hL]
  obtain ⟨ρ', hf, A2, A3, rfl⟩ : ∃ ρ', forL (fun r => exSs pgm C [(.exp (.mm .append 1 [(.tup [(.op .tup1 [(.lc (.tup [(.var 4), (.var 5)]) (.tp [4, 5]) .each [(.var 2)] [] [4, 5])]), (.var 3)])]))] r) (.tp [2, 3]) L [some (.tuple L), some (.list []), none, none, none, none] = .nx ρ' ∧ ∃ A2 A3 : Option D, ρ' = [some (.tuple L), some (.list L), A2, A3, none, none] := by
    refine forL_nx (fun pre ρ => ∃ A2 A3 : Option D, ρ = [some (.tuple L), some (.list pre), A2, A3, none, none]) _ _ ⟨none, none, rfl⟩ ?_
    rintro pre d post ρ hd ⟨A2, A3, rfl⟩
    obtain ⟨a, c, rfl, al⟩ := hq d (by rw [hd]; simp)
    have pl : pre.length ≤ 1000 := by
      have := congrArg List.length hd
      rw [List.length_append] at this
      omega
    have l1 : evE pgm C (.lc (.tup [(.var 4), (.var 5)]) (.tp [4, 5]) .each [(.var 2)] [] [4, 5]) [some (.tuple L), some (.list pre), some (enc a), some (.int c), none, none] = .ok (.list ((a.map encP).map fun d => d)) [some (.tuple L), some (.list pre), some (enc a), some (.int c), none, none] := by
      refine lc_all (os := [.inl (enc a)]) (ds := [enc a]) (items := a.map encP) (by simp only [ex_0, ex_1, ex_asg, ex_asgO, ex_setI, ex_aug, ex_augI, ex_exp, ex_ite, ex_ret, ex_retO, ex_retN, ev_non, ev_bl, ev_int, ev_str, ew_var, ew_mv, ev_tup, ev_lst, ev_op, ev_not, ev_ite, ev_call, ev_dic, ev_and0, ev_and1, ev_or0, ev_or1, ev_es0, ev_es1, ev_os0, ev_osO, ev_osB, os_non, os_bl, os_int, os_str, os_var, os_mv, os_tup, os_lst, os_op, os_ite, os_call, os_not, os_mm, os_get, os_lc, os_dc, os_sortk, os_callk, ev_if0, ev_if1, ev_mm, ev_get, b_ok, t_ok, ab_ok, op_0, op_1, call_1, see, seeO, setS, setTg, setAll, startR, List.getElem?_cons_zero, List.getElem?_cons_succ, List.getElem?_nil, List.set_cons_zero, List.set_cons_succ, List.set_nil, List.length_cons, List.length_nil, List.map_cons, List.map_nil, List.cons_append, List.nil_append, List.replicate, Option.map_some, List.tail_cons, prim, callR, giveOf, putBack, kd_0, kd_1, kd_2, kd_3, kd_4, kd_5, kd_6, kd_7, kd_8, kd_9, kd_10, kd_11, kd_12, kd_13, kd_14, kd_15, kd_16, kd_17, kd_18, kd_19, kd_20, kd_21, kd_22, kd_23]) rfl rfl (fun z hz => ?_) rfl (by rw [List.length_map]; unfold sizeLine; omega)
      obtain ⟨r, hr, rfl⟩ := List.mem_map.mp hz
      refine ⟨[some (.tuple L), some (.list pre), some (enc a), some (.int c), some r.1, some (.int r.2)], rfl, rfl, ?_⟩
      simp only [ex_0, ex_1, ex_asg, ex_asgO, ex_setI, ex_aug, ex_augI, ex_exp, ex_ite, ex_ret, ex_retO, ex_retN, ev_non, ev_bl, ev_int, ev_str, ew_var, ew_mv, ev_tup, ev_lst, ev_op, ev_not, ev_ite, ev_call, ev_dic, ev_and0, ev_and1, ev_or0, ev_or1, ev_es0, ev_es1, ev_os0, ev_osO, ev_osB, os_non, os_bl, os_int, os_str, os_var, os_mv, os_tup, os_lst, os_op, os_ite, os_call, os_not, os_mm, os_get, os_lc, os_dc, os_sortk, os_callk, ev_if0, ev_if1, ev_mm, ev_get, b_ok, t_ok, ab_ok, op_0, op_1, call_1, see, seeO, setS, setTg, setAll, startR, List.getElem?_cons_zero, List.getElem?_cons_succ, List.getElem?_nil, List.set_cons_zero, List.set_cons_succ, List.set_nil, List.length_cons, List.length_nil, List.map_cons, List.map_nil, List.cons_append, List.nil_append, List.replicate, Option.map_some, List.tail_cons, prim, callR, giveOf, putBack, kd_0, kd_1, kd_2, kd_3, kd_4, kd_5, kd_6, kd_7, kd_8, kd_9, kd_10, kd_11, kd_12, kd_13, kd_14, kd_15, kd_16, kd_17, kd_18, kd_19, kd_20, kd_21, kd_22, kd_23, Nat.reduceAdd, ft0, ft1, ft2, ft3, ft4, ft5, ft6, ft7, ft8, ft9, ft10, if_true]
      rfl
    have hap : ∀ x, meth .append (.list pre) [x] = some (.none, .list (pre ++ [x])) := fun x => by
      show (if pre.length < sizeLine then some (PyData.none, PyData.list (pre ++ [x])) else none) = _
      rw [if_pos (by unfold sizeLine; omega)]
    have hmm : evE pgm C (.mm .append 1 [(.tup [(.op .tup1 [(.lc (.tup [(.var 4), (.var 5)]) (.tp [4, 5]) .each [(.var 2)] [] [4, 5])]), (.var 3)])]) [some (.tuple L), some (.list pre), some (enc a), some (.int c), none, none] = .ok .none [some (.tuple L), some (.list (pre ++ [.tuple [enc a, .int c]])), some (enc a), some (.int c), none, none] := by
      refine mm_at (ds := pre) (vs := [.tuple [enc a, .int c]]) (ρ1 := [some (.tuple L), some (.list pre), some (enc a), some (.int c), none, none]) (d := .list pre) rfl ?_ rfl (hap _)
      simp only [ex_0, ex_1, ex_asg, ex_asgO, ex_setI, ex_aug, ex_augI, ex_exp, ex_ite, ex_ret, ex_retO, ex_retN, ev_non, ev_bl, ev_int, ev_str, ew_var, ew_mv, ev_tup, ev_lst, ev_op, ev_not, ev_ite, ev_call, ev_dic, ev_and0, ev_and1, ev_or0, ev_or1, ev_es0, ev_es1, ev_os0, ev_osO, ev_osB, os_non, os_bl, os_int, os_str, os_var, os_mv, os_tup, os_lst, os_op, os_ite, os_call, os_not, os_mm, os_get, os_lc, os_dc, os_sortk, os_callk, ev_if0, ev_if1, ev_get, b_ok, t_ok, ab_ok, op_0, op_1, call_1, see, seeO, setS, setTg, setAll, startR, List.getElem?_cons_zero, List.getElem?_cons_succ, List.getElem?_nil, List.set_cons_zero, List.set_cons_succ, List.set_nil, List.length_cons, List.length_nil, List.map_cons, List.map_nil, List.cons_append, List.nil_append, List.replicate, Option.map_some, List.tail_cons, prim, callR, giveOf, putBack, kd_0, kd_1, kd_2, kd_3, kd_4, kd_5, kd_6, kd_7, kd_8, kd_9, kd_10, kd_11, kd_12, kd_13, kd_14, kd_15, kd_16, kd_17, kd_18, kd_19, kd_20, kd_21, kd_22, kd_23, l1, List.map_id', pTup1, Nat.reduceAdd, ft0, ft1, ft2, ft3, ft4, ft5, ft6, ft7, ft8, ft9, ft10, if_true]
      rfl
    refine ⟨[some (.tuple L), some (.list pre), some (enc a), some (.int c), none, none], _, rfl, .inl ?_, some (enc a), some (.int c), rfl⟩
    rw [ex_1, ex_exp, hmm]
    rfl
  have s0 : exS pgm C (.asgO 1 (.lst [])) (startR fi_0 [.tuple L]) = .nx [some (.tuple L), some (.list []), none, none, none, none] := by
    show exS pgm C (.asgO 1 (.lst [])) [some (.tuple L), none, none, none, none, none] = _
    simp only [ex_0, ex_1, ex_asg, ex_asgO, ex_setI, ex_aug, ex_augI, ex_exp, ex_ite, ex_ret, ex_retO, ex_retN, ev_non, ev_bl, ev_int, ev_str, ew_var, ew_mv, ev_tup, ev_lst, ev_op, ev_not, ev_ite, ev_call, ev_dic, ev_and0, ev_and1, ev_or0, ev_or1, ev_es0, ev_es1, ev_os0, ev_osO, ev_osB, os_non, os_bl, os_int, os_str, os_var, os_mv, os_tup, os_lst, os_op, os_ite, os_call, os_not, os_mm, os_get, os_lc, os_dc, os_sortk, os_callk, ev_if0, ev_if1, ev_mm, ev_get, b_ok, t_ok, ab_ok, op_0, op_1, call_1, see, seeO, setS, setTg, setAll, startR, List.getElem?_cons_zero, List.getElem?_cons_succ, List.getElem?_nil, List.set_cons_zero, List.set_cons_succ, List.set_nil, List.length_cons, List.length_nil, List.map_cons, List.map_nil, List.cons_append, List.nil_append, List.replicate, Option.map_some, List.tail_cons, prim, callR, giveOf, putBack, kd_0, kd_1, kd_2, kd_3, kd_4, kd_5, kd_6, kd_7, kd_8, kd_9, kd_10, kd_11, kd_12, kd_13, kd_14, kd_15, kd_16, kd_17, kd_18, kd_19, kd_20, kd_21, kd_22, kd_23, Nat.reduceAdd, ft0, ft1, ft2, ft3, ft4, ft5, ft6, ft7, ft8, ft9, ft10, if_true, isTopD]
  have sf : exS pgm C (.for_ (.tp [2, 3]) .each [(.var 0)] [(.exp (.mm .append 1 [(.tup [(.op .tup1 [(.lc (.tup [(.var 4), (.var 5)]) (.tp [4, 5]) .each [(.var 2)] [] [4, 5])]), (.var 3)])]))]) [some (.tuple L), some (.list []), none, none, none, none] = .nx [some (.tuple L), some (.list L), A2, A3, none, none] := by
    rw [ex_for (os := [.inl (.tuple L)]) (ρ1 := [some (.tuple L), some (.list []), none, none, none, none]) (ds := [.tuple L]) (items := L) (by simp only [ex_0, ex_1, ex_asg, ex_asgO, ex_setI, ex_aug, ex_augI, ex_exp, ex_ite, ex_ret, ex_retO, ex_retN, ev_non, ev_bl, ev_int, ev_str, ew_var, ew_mv, ev_tup, ev_lst, ev_op, ev_not, ev_ite, ev_call, ev_dic, ev_and0, ev_and1, ev_or0, ev_or1, ev_es0, ev_es1, ev_os0, ev_osO, ev_osB, os_non, os_bl, os_int, os_str, os_var, os_mv, os_tup, os_lst, os_op, os_ite, os_call, os_not, os_mm, os_get, os_lc, os_dc, os_sortk, os_callk, ev_if0, ev_if1, ev_mm, ev_get, b_ok, t_ok, ab_ok, op_0, op_1, call_1, see, seeO, setS, setTg, setAll, startR, List.getElem?_cons_zero, List.getElem?_cons_succ, List.getElem?_nil, List.set_cons_zero, List.set_cons_succ, List.set_nil, List.length_cons, List.length_nil, List.map_cons, List.map_nil, List.cons_append, List.nil_append, List.replicate, Option.map_some, List.tail_cons, prim, callR, giveOf, putBack, kd_0, kd_1, kd_2, kd_3, kd_4, kd_5, kd_6, kd_7, kd_8, kd_9, kd_10, kd_11, kd_12, kd_13, kd_14, kd_15, kd_16, kd_17, kd_18, kd_19, kd_20, kd_21, kd_22, kd_23]) rfl rfl]
    show (forL _ _ _ [some (.tuple L), some (.list []), none, none, none, none]).map id = _
    rw [hf]
    rfl
  rw [show fi_0.body = [(.asgO 1 (.lst [])), (.for_ (.tp [2, 3]) .each [(.var 0)] [(.exp (.mm .append 1 [(.tup [(.op .tup1 [(.lc (.tup [(.var 4), (.var 5)]) (.tp [4, 5]) .each [(.var 2)] [] [4, 5])]), (.var 3)])]))]), (.ret (.op .tup1 [(.own 1)]))] from rfl]
  simp only [ex_1, s0, sf]
  simp only [ex_0, ex_1, ex_asg, ex_asgO, ex_setI, ex_aug, ex_augI, ex_exp, ex_ite, ex_ret, ex_retO, ex_retN, ev_non, ev_bl, ev_int, ev_str, ew_var, ew_mv, ev_tup, ev_lst, ev_op, ev_not, ev_ite, ev_call, ev_dic, ev_and0, ev_and1, ev_or0, ev_or1, ev_es0, ev_es1, ev_os0, ev_osO, ev_osB, os_non, os_bl, os_int, os_str, os_var, os_mv, os_tup, os_lst, os_op, os_ite, os_call, os_not, os_mm, os_get, os_lc, os_dc, os_sortk, os_callk, ev_if0, ev_if1, ev_mm, ev_get, b_ok, t_ok, ab_ok, op_0, op_1, call_1, see, seeO, setS, setTg, setAll, startR, List.getElem?_cons_zero, List.getElem?_cons_succ, List.getElem?_nil, List.set_cons_zero, List.set_cons_succ, List.set_nil, List.length_cons, List.length_nil, List.map_cons, List.map_nil, List.cons_append, List.nil_append, List.replicate, Option.map_some, List.tail_cons, prim, callR, giveOf, putBack, kd_0, kd_1, kd_2, kd_3, kd_4, kd_5, kd_6, kd_7, kd_8, kd_9, kd_10, kd_11, kd_12, kd_13, kd_14, kd_15, kd_16, kd_17, kd_18, kd_19, kd_20, kd_21, kd_22, kd_23, pTup1, endOf, givenOf]
end PV

set_option maxHeartbeats 4000000
namespace PV
open PySem
/-! ### law_k02: sums and products of polynomials -/
theorem forL_nx1 {f : Rho → SR} {tg : Tg} {d : D} {ds : List D} {ρ ρ1 ρ2 : Rho} (h : setTg tg d ρ = some ρ1) (hf : f ρ1 = .nx ρ2) : forL f tg (d :: ds) ρ = forL f tg ds ρ2 := by simp only [forL, h, hf]
noncomputable def mulD (x y : D) : D := enc (nfL (dec x ++ dec y))
theorem MonoL.mono {n n' : Nat} {e e' : Int} {a : List (D × Int)} (h : MonoL n e a) (hn : n ≤ n') (he : e ≤ e') : MonoL n' e' a := ⟨h.can, h.ty, Nat.le_trans h.len hn, Int.le_trans h.tot he⟩
theorem mul_nf {n1 n2 : Nat} {e1 e2 : Int} {a b : List (D × Int)} (ha : MonoL n1 e1 a) (hb : MonoL n2 e2 b) (hn : n1 + n2 ≤ 1000) : MonoL (n1 + n2) (e1 + e2) (nfL (a ++ b)) ∧ ∀ f, lin f (nfL (a ++ b)) = lin f a + lin f b := by
  have al := ha.len
  have bl := hb.len
  have ty : ∀ p ∈ a ++ b, isT .str p.1 = true := fun p hp => (List.mem_append.mp hp).elim (ha.ty p) (hb.ty p)
  have nf := nf_ok (t := .str) (by decide) ty (fun p hp => (List.mem_append.mp hp).elim (ha.can.pos p) (hb.can.pos p)) (by rw [List.length_append]; omega)
  refine ⟨⟨nf.can, fun p hp => ?_, by have := nf.len; rw [List.length_append] at this; omega, ?_⟩, fun f => by rw [nf.lin, lin_app]⟩
  · obtain ⟨r, hr, e⟩ := List.mem_map.mp (nf.keys p hp)
    rw [← e]; exact ty r hr
  · rw [nf.lin, lin_app]
    have := ha.tot
    have := hb.tot
    omega
theorem mul_mono {n1 n2 : Nat} {e1 e2 : Int} {x y : D} (hx : MonoC n1 e1 x) (hy : MonoC n2 e2 y) (hn : n1 + n2 ≤ 1000) : MonoC (n1 + n2) (e1 + e2) (mulD x y) ∧ ∀ f, lin f (dec (mulD x y)) = lin f (dec x) + lin f (dec y) := by
  obtain ⟨a, rfl, ha⟩ := hx
  obtain ⟨b, rfl, hb⟩ := hy
  obtain ⟨h1, h2⟩ := mul_nf ha hb hn
  unfold mulD
  rw [dec_enc, dec_enc, dec_enc]
  exact ⟨⟨_, rfl, h1⟩, h2⟩
theorem mono_ext {n1 n2 : Nat} {e1 e2 : Int} {x y : D} (hx : MonoC n1 e1 x) (hy : MonoC n2 e2 y) (h : ∀ f, lin f (dec x) = lin f (dec y)) : x = y := by
  obtain ⟨a, rfl, ha⟩ := hx
  obtain ⟨b, rfl, hb⟩ := hy
  rw [dec_enc, dec_enc] at h
  rw [ha.can.ext hb.can h]
noncomputable def prodL (p q : List (D × Int)) : List (D × Int) := p.flatMap fun a => q.map fun b => (mulD a.1 b.1, a.2 * b.2)
theorem lin_row {f : D → Int} {x : D} {c : Int} : ∀ {q : List (D × Int)}, lin f (q.map fun b => (mulD x b.1, c * b.2)) = c * lin (fun y => f (mulD x y)) q
  | [] => by rw [lin_nil, Int.mul_zero]; rfl
  | b :: q => by
    rw [List.map_cons, lin_cons, lin_cons, lin_row, Int.mul_add, Int.mul_assoc]
theorem lin_prod {f : D → Int} {q : List (D × Int)} : ∀ {p : List (D × Int)}, lin f (prodL p q) = lin (fun x => lin (fun y => f (mulD x y)) q) p
  | [] => rfl
  | a :: p => by
    have : prodL (a :: p) q = (q.map fun b => (mulD a.1 b.1, a.2 * b.2)) ++ prodL p q := rfl
    rw [this, lin_app, lin_row, lin_prod, lin_cons]
theorem prod_len {q : List (D × Int)} : ∀ {p : List (D × Int)}, (prodL p q).length = p.length * q.length
  | [] => by simp [prodL]
  | a :: p => by
    have : prodL (a :: p) q = (q.map fun b => (mulD a.1 b.1, a.2 * b.2)) ++ prodL p q := rfl
    rw [this, List.length_append, List.length_map, prod_len, List.length_cons, Nat.add_mul]; omega
noncomputable def plusL (p q : List (D × Int)) : List (D × Int) := nfL (p ++ q)
noncomputable def timesL (p q : List (D × Int)) : List (D × Int) := nfL (prodL p q)
theorem PolyC.mono {n n' : Nat} {e e' : Int} {N N' : Nat} {S S' : Int} {p : List (D × Int)} (h : PolyC n e N S p) (hn : n ≤ n') (he : e ≤ e') (hN : N ≤ N') (hS : S ≤ S') : PolyC n' e' N' S' p :=
  ⟨h.can, fun q hq => let ⟨a, ea, ha⟩ := h.keys q hq; ⟨a, ea, ha.mono hn he⟩, Nat.le_trans h.len hN, Int.le_trans h.tot hS⟩
theorem poly_big {n : Nat} {e : Int} {N : Nat} {S : Int} {p : List (D × Int)} (h : PolyC n e N S p) : 0 ≤ lin (fun _ => 1) p ∧ ∀ q ∈ p, 1 ≤ q.2 ∧ q.2 ≤ S := by
  obtain ⟨h1, h2⟩ := mem_tot h.can.pos
  exact ⟨h1, fun q hq => ⟨h.can.pos q hq, Int.le_trans (h2 q hq) h.tot⟩⟩
theorem plus_items {n : Nat} {e : Int} {N1 N2 : Nat} {S1 S2 : Int} {p q : List (D × Int)} (hp : PolyC n e N1 S1 p) (hq : PolyC n e N2 S2 q) : ∀ x ∈ p ++ q, MonoC n e x.1 ∧ 1 ≤ x.2 := fun x hx => (List.mem_append.mp hx).elim (fun z => ⟨hp.keys x z, hp.can.pos x z⟩) fun z => ⟨hq.keys x z, hq.can.pos x z⟩
theorem plus_ok {n : Nat} {e : Int} {N1 N2 : Nat} {S1 S2 : Int} {p q : List (D × Int)} (hp : PolyC n e N1 S1 p) (hq : PolyC n e N2 S2 q) (hN : N1 + N2 ≤ 400) : PolyC n e (N1 + N2) (S1 + S2) (plusL p q) ∧ ∀ f, lin f (plusL p q) = lin f p + lin f q := by
  have it := plus_items hp hq
  have pl := hp.len
  have ql := hq.len
  have nf := nf_ok (t := MT) (by decide) (fun x hx => (it x hx).1.ty) (fun x hx => (it x hx).2) (by rw [List.length_append]; omega)
  refine ⟨⟨nf.can, fun x hx => ?_, by have := nf.len; rw [List.length_append] at this; exact Nat.le_trans this (by omega), ?_⟩, fun f => by unfold plusL; rw [nf.lin, lin_app]⟩
  · obtain ⟨r, hr, e⟩ := List.mem_map.mp (nf.keys x hx)
    rw [← e]; exact (it r hr).1
  · unfold plusL
    rw [nf.lin, lin_app]
    have := hp.tot
    have := hq.tot
    omega
theorem times_items {n1 n2 : Nat} {e1 e2 : Int} {N1 N2 : Nat} {S1 S2 : Int} {p q : List (D × Int)} (hp : PolyC n1 e1 N1 S1 p) (hq : PolyC n2 e2 N2 S2 q) (hn : n1 + n2 ≤ 1000) : ∀ x ∈ prodL p q, MonoC (n1 + n2) (e1 + e2) x.1 ∧ 1 ≤ x.2 ∧ x.2 ≤ S1 * S2 := fun x hx => by
  obtain ⟨a, ha, hx⟩ := List.mem_flatMap.mp hx
  obtain ⟨b, hb, rfl⟩ := List.mem_map.mp hx
  have a1 := (poly_big hp).2 a ha
  have b1 := (poly_big hq).2 b hb
  refine ⟨(mul_mono (hp.keys a ha) (hq.keys b hb) hn).1, ?_, Int.mul_le_mul a1.2 b1.2 (by omega) (by omega)⟩
  have : 1 * 1 ≤ a.2 * b.2 := Int.mul_le_mul a1.1 b1.1 (by decide) (by omega)
  exact this
theorem times_ok {n1 n2 : Nat} {e1 e2 : Int} {N1 N2 : Nat} {S1 S2 : Int} {p q : List (D × Int)} (hp : PolyC n1 e1 N1 S1 p) (hq : PolyC n2 e2 N2 S2 q) (hn : n1 + n2 ≤ 1000) (hN : N1 * N2 ≤ 400) : PolyC (n1 + n2) (e1 + e2) (N1 * N2) (S1 * S2) (timesL p q) ∧ ∀ f, lin f (timesL p q) = lin (fun x => lin (fun y => f (mulD x y)) q) p := by
  have it := times_items hp hq hn
  have pl : (prodL p q).length ≤ N1 * N2 := by rw [prod_len]; exact Nat.mul_le_mul hp.len hq.len
  have nf := nf_ok (t := MT) (by decide) (fun x hx => (it x hx).1.ty) (fun x hx => (it x hx).2.1) (by omega)
  refine ⟨⟨nf.can, fun x hx => ?_, Nat.le_trans nf.len pl, ?_⟩, fun f => by unfold timesL; rw [nf.lin, lin_prod]⟩
  · obtain ⟨r, hr, e⟩ := List.mem_map.mp (nf.keys x hx)
    rw [← e]; exact (it r hr).1
  · unfold timesL
    rw [nf.lin, lin_prod]
    have e1 : lin (fun x => lin (fun y => (fun _ => (1 : Int)) (mulD x y)) q) p = lin (fun _ => 1) q * lin (fun _ => 1) p := by
      rw [← lin_mul]
      exact lin_congr fun _ _ => by rw [Int.mul_one]
    rw [e1, Int.mul_comm]
    exact Int.mul_le_mul hp.tot hq.tot (poly_big hq).1 (Int.le_trans (poly_big hp).1 hp.tot)
/-! the walks -/
theorem pAdd_enc {p q : List (D × Int)} (h : p.length + q.length ≤ 1000) : pAdd [enc p, enc q] = some (.tuple ((p ++ q).map encP)) := by
  show (if fitsLn ((p.map encP).length + (q.map encP).length) then some (PyData.tuple (p.map encP ++ q.map encP)) else none) = _
  rw [show fitsLn ((p.map encP).length + (q.map encP).length) = true from decide_eq_true (by rw [List.length_map, List.length_map]; unfold sizeLine; omega), List.map_append]
  rfl
abbrev accS : List S := [(.setI 2 (.var 3) (.op .add [(.get 2 [(.var 3), (.int 0)]), (.var 4)]))]
theorem acc_loop {C : Orc} {n : Nat} {e : Int} {A0 A1 : Option D} {xs : List (D × Int)} (h : ∀ x ∈ xs, MonoC n e x.1 ∧ 1 ≤ x.2 ∧ x.2 ≤ 1000000000000000000) (hl : xs.length ≤ 1000) : ∃ A3 A4 : Option D, forL (fun r => exSs pgm C accS r) (.tp [3, 4]) (xs.map encP) [A0, A1, some (.dict []), none, none] = .nx [A0, A1, some (.dict (bk (sumL xs))), A3, A4] := by
  obtain ⟨ρ', hf, A3, A4, rfl⟩ := bk_fold (kf_mono (n := n) (e := e)) (f := fun r => exSs pgm C accS r) (tg := .tp [3, 4]) (st := fun d ρ => ∃ A3 A4 : Option D, ρ = [A0, A1, some d, A3, A4]) (by
    rintro k c l ρ hk c1 c2 hl ll ⟨A3, A4, rfl⟩
    obtain ⟨v, g, pt⟩ := bk_add kf_mono hk hl (by omega)
    have pt := pt c
    generalize bk l = kvs at *
    generalize bk (addL k c l) = kvs2 at *
    refine ⟨[A0, A1, some (.dict kvs), some k, some (.int c)], _, rfl, .inl ?_, some k, some (.int c), rfl⟩
    simp only [ex_0, ex_1, ex_asg, ex_asgO, ex_setI, ex_aug, ex_augI, ex_exp, ex_ite, ex_ret, ex_retO, ex_retN, ev_non, ev_bl, ev_int, ev_str, ew_var, ew_mv, ev_tup, ev_lst, ev_op, ev_not, ev_ite, ev_call, ev_dic, ev_and0, ev_and1, ev_or0, ev_or1, ev_es0, ev_es1, ev_os0, ev_osO, ev_osB, os_non, os_bl, os_int, os_str, os_var, os_mv, os_tup, os_lst, os_op, os_ite, os_call, os_not, os_mm, os_get, os_lc, os_dc, os_sortk, os_callk, ev_if0, ev_if1, ev_mm, ev_get, b_ok, t_ok, ab_ok, op_0, op_1, call_1, see, seeO, setS, setTg, setAll, startR, List.getElem?_cons_zero, List.getElem?_cons_succ, List.getElem?_nil, List.set_cons_zero, List.set_cons_succ, List.set_nil, List.length_cons, List.length_nil, List.map_cons, List.map_nil, List.cons_append, List.nil_append, List.replicate, Option.map_some, List.tail_cons, prim, callR, giveOf, putBack, kd_0, kd_1, kd_2, kd_3, kd_4, kd_5, kd_6, kd_7, kd_8, kd_9, kd_10, kd_11, kd_12, kd_13, kd_14, kd_15, kd_16, kd_17, kd_18, kd_19, kd_20, kd_21, kd_22, kd_23, g, pAdd_ii, pt]) xs [] [A0, A1, some (.dict []), none, none] h (by simp) (by simp only [List.length_nil]; omega) ⟨none, none, rfl⟩
  exact ⟨A3, A4, hf⟩
theorem sum_keys {n : Nat} {e : Int} {xs : List (D × Int)} (h : ∀ x ∈ xs, MonoC n e x.1) (so : SumOk xs (sumL xs)) : ∀ x ∈ sumL xs, MonoC n e x.1 := fun x hx => by
  obtain ⟨r, hr, e⟩ := List.mem_map.mp ((so.keys x.1).mp (List.mem_map_of_mem hx))
  rw [← e]; exact h r hr
theorem book_le {xs : List (D × Int)} {S : Int} (so : SumOk xs (sumL xs)) (h : lin (fun _ => 1) xs ≤ S) : ∀ x ∈ sumL xs, x.2 ≤ S := fun x hx => by
  have := (mem_tot so.pos).2 x hx
  rw [so.lin] at this
  omega
abbrev K0 (C : Orc) : Prop := ∀ {m : Nat} {e : Int} {p : List (D × Int)}, (∀ q ∈ p, MonoC m e q.1) → m ≤ 1000 → p.length ≤ 1000 → C 0 [enc p] = .ret (enc p) []
abbrev K1 (C : Orc) : Prop := ∀ {m : Nat} {e : Int} {l : List (D × Int)}, (∀ p ∈ l, MonoC m e p.1) → (l.map (·.1)).Nodup → l.length ≤ 400 → (∀ p ∈ l, p.2 ≤ 1000000000000000000) → ∃ s : List (D × Int), C 1 [.dict (bk l)] = .ret (enc s) [] ∧ s.Perm l ∧ Srt (s.map (·.1))
abbrev K14 (C : Orc) : Prop := ∀ {m : Nat} {e : Int} {l : List (D × Int)}, (∀ p ∈ l, MonoC m e p.1) → (l.map (·.1)).Nodup → (∀ p ∈ l, 1 ≤ p.2) → l.length ≤ 1000 → ∃ s : List (D × Int), C 14 [.dict (bk l)] = .ret (enc s) [] ∧ s.Perm l ∧ Srt (s.map (·.1))
theorem lin_small {n : Nat} {e : Int} {N1 N2 : Nat} {S1 S2 : Int} {p q : List (D × Int)} (hp : PolyC n e N1 S1 p) (hq : PolyC n e N2 S2 q) : lin (fun _ => 1) (p ++ q) ≤ S1 + S2 := by
  rw [lin_app]
  have := hp.tot
  have := hq.tot
  omega
theorem added_body {C : Orc} (k0 : K0 C) (k1 : K1 C) {n : Nat} {e : Int} {N1 N2 : Nat} {S1 S2 : Int} {p q : List (D × Int)} (hp : PolyC n e N1 S1 p) (hq : PolyC n e N2 S2 q) (hn : n ≤ 1000) (hN : N1 + N2 ≤ 400) (hS : S1 + S2 ≤ 1000000000000000000) : endOf pgm 6 (exSs pgm C fi_6.body (startR fi_6 [enc p, enc q])) = .ret (enc (plusL p q)) [] := by
  have it := plus_items hp hq
  have pl := hp.len
  have ql := hq.len
  have so : SumOk (p ++ q) (sumL (p ++ q)) := sumOk fun x hx => (it x hx).2
  have ls := lin_small hp hq
  have mt := (mem_tot (l := p ++ q) fun x hx => (it x hx).2).2
  obtain ⟨A3, A4, hf⟩ := acc_loop (C := C) (A0 := some (enc p)) (A1 := some (enc q)) (xs := p ++ q) (fun x hx => ⟨(it x hx).1, (it x hx).2, by have := mt x hx; omega⟩) (by rw [List.length_append]; omega)
  obtain ⟨s, r1, r2, r3⟩ := k1 (sum_keys (fun x hx => (it x hx).1) so) so.nd (by have := so.len; rw [List.length_append] at this; omega) (book_le so (by omega))
  have h0 := k0 hp.keys hn (by omega)
  have h1 := k0 hq.keys hn (by omega)
  have ad := pAdd_enc (p := p) (q := q) (by omega)
  unfold plusL
  rw [nf_of so r2 r3]
  generalize bk (sumL (p ++ q)) = kvs at *
  have s0 : exS pgm C (.asgO 2 (.dic [] [])) (startR fi_6 [enc p, enc q]) = .nx [some (enc p), some (enc q), some (.dict []), none, none] := by
    show exS pgm C (.asgO 2 (.dic [] [])) [some (enc p), some (enc q), none, none, none] = _
    simp only [ex_0, ex_1, ex_asg, ex_asgO, ex_setI, ex_aug, ex_augI, ex_exp, ex_ite, ex_ret, ex_retO, ex_retN, ev_non, ev_bl, ev_int, ev_str, ew_var, ew_mv, ev_tup, ev_lst, ev_op, ev_not, ev_ite, ev_call, ev_dic, ev_and0, ev_and1, ev_or0, ev_or1, ev_es0, ev_es1, ev_os0, ev_osO, ev_osB, os_non, os_bl, os_int, os_str, os_var, os_mv, os_tup, os_lst, os_op, os_ite, os_call, os_not, os_mm, os_get, os_lc, os_dc, os_sortk, os_callk, ev_if0, ev_if1, ev_mm, ev_get, b_ok, t_ok, ab_ok, op_0, op_1, call_1, see, seeO, setS, setTg, setAll, startR, List.getElem?_cons_zero, List.getElem?_cons_succ, List.getElem?_nil, List.set_cons_zero, List.set_cons_succ, List.set_nil, List.length_cons, List.length_nil, List.map_cons, List.map_nil, List.cons_append, List.nil_append, List.replicate, Option.map_some, List.tail_cons, prim, callR, giveOf, putBack, kd_0, kd_1, kd_2, kd_3, kd_4, kd_5, kd_6, kd_7, kd_8, kd_9, kd_10, kd_11, kd_12, kd_13, kd_14, kd_15, kd_16, kd_17, kd_18, kd_19, kd_20, kd_21, kd_22, kd_23, isTopD, if_true]
  have sf : exS pgm C (.for_ (.tp [3, 4]) .each [(.op .add [(.call 0 [(.var 0)]), (.call 0 [(.var 1)])])] accS) [some (enc p), some (enc q), some (.dict []), none, none] = .nx [some (enc p), some (enc q), some (.dict kvs), A3, A4] := by
    rw [ex_for (os := [.inl (.tuple ((p ++ q).map encP))]) (ρ1 := [some (enc p), some (enc q), some (.dict []), none, none]) (ds := [.tuple ((p ++ q).map encP)]) (items := (p ++ q).map encP) (by simp only [ex_0, ex_1, ex_asg, ex_asgO, ex_setI, ex_aug, ex_augI, ex_exp, ex_ite, ex_ret, ex_retO, ex_retN, ev_non, ev_bl, ev_int, ev_str, ew_var, ew_mv, ev_tup, ev_lst, ev_op, ev_not, ev_ite, ev_call, ev_dic, ev_and0, ev_and1, ev_or0, ev_or1, ev_es0, ev_es1, ev_os0, ev_osO, ev_osB, os_non, os_bl, os_int, os_str, os_var, os_mv, os_tup, os_lst, os_op, os_ite, os_call, os_not, os_mm, os_get, os_lc, os_dc, os_sortk, os_callk, ev_if0, ev_if1, ev_mm, ev_get, b_ok, t_ok, ab_ok, op_0, op_1, call_1, see, seeO, setS, setTg, setAll, startR, List.getElem?_cons_zero, List.getElem?_cons_succ, List.getElem?_nil, List.set_cons_zero, List.set_cons_succ, List.set_nil, List.length_cons, List.length_nil, List.map_cons, List.map_nil, List.cons_append, List.nil_append, List.replicate, Option.map_some, List.tail_cons, prim, callR, giveOf, putBack, kd_0, kd_1, kd_2, kd_3, kd_4, kd_5, kd_6, kd_7, kd_8, kd_9, kd_10, kd_11, kd_12, kd_13, kd_14, kd_15, kd_16, kd_17, kd_18, kd_19, kd_20, kd_21, kd_22, kd_23, h0, h1, ad]) rfl rfl]
    show (forL _ _ _ [some (enc p), some (enc q), some (.dict []), none, none]).map id = _
    rw [hf]
    rfl
  rw [show fi_6.body = [(.asgO 2 (.dic [] [])), (.for_ (.tp [3, 4]) .each [(.op .add [(.call 0 [(.var 0)]), (.call 0 [(.var 1)])])] accS), (.ret (.call 1 [(.own 2)]))] from rfl]
  simp only [ex_1, s0, sf]
  simp only [ex_0, ex_1, ex_asg, ex_asgO, ex_setI, ex_aug, ex_augI, ex_exp, ex_ite, ex_ret, ex_retO, ex_retN, ev_non, ev_bl, ev_int, ev_str, ew_var, ew_mv, ev_tup, ev_lst, ev_op, ev_not, ev_ite, ev_call, ev_dic, ev_and0, ev_and1, ev_or0, ev_or1, ev_es0, ev_es1, ev_os0, ev_osO, ev_osB, os_non, os_bl, os_int, os_str, os_var, os_mv, os_tup, os_lst, os_op, os_ite, os_call, os_not, os_mm, os_get, os_lc, os_dc, os_sortk, os_callk, ev_if0, ev_if1, ev_mm, ev_get, b_ok, t_ok, ab_ok, op_0, op_1, call_1, see, seeO, setS, setTg, setAll, startR, List.getElem?_cons_zero, List.getElem?_cons_succ, List.getElem?_nil, List.set_cons_zero, List.set_cons_succ, List.set_nil, List.length_cons, List.length_nil, List.map_cons, List.map_nil, List.cons_append, List.nil_append, List.replicate, Option.map_some, List.tail_cons, prim, callR, giveOf, putBack, kd_0, kd_1, kd_2, kd_3, kd_4, kd_5, kd_6, kd_7, kd_8, kd_9, kd_10, kd_11, kd_12, kd_13, kd_14, kd_15, kd_16, kd_17, kd_18, kd_19, kd_20, kd_21, kd_22, kd_23, r1, endOf, givenOf]
theorem lplus_body {C : Orc} (k14 : K14 C) {n : Nat} {e : Int} {N1 N2 : Nat} {S1 S2 : Int} {p q : List (D × Int)} (hp : PolyC n e N1 S1 p) (hq : PolyC n e N2 S2 q) (hN : N1 + N2 ≤ 400) (hS : S1 + S2 ≤ 1000000000000000000) : endOf pgm 17 (exSs pgm C fi_17.body (startR fi_17 [enc p, enc q])) = .ret (enc (plusL p q)) [] := by
  have it := plus_items hp hq
  have pl := hp.len
  have ql := hq.len
  have so : SumOk (p ++ q) (sumL (p ++ q)) := sumOk fun x hx => (it x hx).2
  have ls := lin_small hp hq
  have mt := (mem_tot (l := p ++ q) fun x hx => (it x hx).2).2
  obtain ⟨A3, A4, hf⟩ := acc_loop (C := C) (A0 := some (enc p)) (A1 := some (enc q)) (xs := p ++ q) (fun x hx => ⟨(it x hx).1, (it x hx).2, by have := mt x hx; omega⟩) (by rw [List.length_append]; omega)
  obtain ⟨s, r1, r2, r3⟩ := k14 (sum_keys (fun x hx => (it x hx).1) so) so.nd so.pos (by have := so.len; rw [List.length_append] at this; omega)
  have ad := pAdd_enc (p := p) (q := q) (by omega)
  unfold plusL
  rw [nf_of so r2 r3]
  generalize bk (sumL (p ++ q)) = kvs at *
  have s0 : exS pgm C (.asgO 2 (.dic [] [])) (startR fi_17 [enc p, enc q]) = .nx [some (enc p), some (enc q), some (.dict []), none, none] := by
    show exS pgm C (.asgO 2 (.dic [] [])) [some (enc p), some (enc q), none, none, none] = _
    simp only [ex_0, ex_1, ex_asg, ex_asgO, ex_setI, ex_aug, ex_augI, ex_exp, ex_ite, ex_ret, ex_retO, ex_retN, ev_non, ev_bl, ev_int, ev_str, ew_var, ew_mv, ev_tup, ev_lst, ev_op, ev_not, ev_ite, ev_call, ev_dic, ev_and0, ev_and1, ev_or0, ev_or1, ev_es0, ev_es1, ev_os0, ev_osO, ev_osB, os_non, os_bl, os_int, os_str, os_var, os_mv, os_tup, os_lst, os_op, os_ite, os_call, os_not, os_mm, os_get, os_lc, os_dc, os_sortk, os_callk, ev_if0, ev_if1, ev_mm, ev_get, b_ok, t_ok, ab_ok, op_0, op_1, call_1, see, seeO, setS, setTg, setAll, startR, List.getElem?_cons_zero, List.getElem?_cons_succ, List.getElem?_nil, List.set_cons_zero, List.set_cons_succ, List.set_nil, List.length_cons, List.length_nil, List.map_cons, List.map_nil, List.cons_append, List.nil_append, List.replicate, Option.map_some, List.tail_cons, prim, callR, giveOf, putBack, kd_0, kd_1, kd_2, kd_3, kd_4, kd_5, kd_6, kd_7, kd_8, kd_9, kd_10, kd_11, kd_12, kd_13, kd_14, kd_15, kd_16, kd_17, kd_18, kd_19, kd_20, kd_21, kd_22, kd_23, isTopD, if_true]
  have sf : exS pgm C (.for_ (.tp [3, 4]) .each [(.op .add [(.var 0), (.var 1)])] accS) [some (enc p), some (enc q), some (.dict []), none, none] = .nx [some (enc p), some (enc q), some (.dict kvs), A3, A4] := by
    rw [ex_for (os := [.inl (.tuple ((p ++ q).map encP))]) (ρ1 := [some (enc p), some (enc q), some (.dict []), none, none]) (ds := [.tuple ((p ++ q).map encP)]) (items := (p ++ q).map encP) (by simp only [ex_0, ex_1, ex_asg, ex_asgO, ex_setI, ex_aug, ex_augI, ex_exp, ex_ite, ex_ret, ex_retO, ex_retN, ev_non, ev_bl, ev_int, ev_str, ew_var, ew_mv, ev_tup, ev_lst, ev_op, ev_not, ev_ite, ev_call, ev_dic, ev_and0, ev_and1, ev_or0, ev_or1, ev_es0, ev_es1, ev_os0, ev_osO, ev_osB, os_non, os_bl, os_int, os_str, os_var, os_mv, os_tup, os_lst, os_op, os_ite, os_call, os_not, os_mm, os_get, os_lc, os_dc, os_sortk, os_callk, ev_if0, ev_if1, ev_mm, ev_get, b_ok, t_ok, ab_ok, op_0, op_1, call_1, see, seeO, setS, setTg, setAll, startR, List.getElem?_cons_zero, List.getElem?_cons_succ, List.getElem?_nil, List.set_cons_zero, List.set_cons_succ, List.set_nil, List.length_cons, List.length_nil, List.map_cons, List.map_nil, List.cons_append, List.nil_append, List.replicate, Option.map_some, List.tail_cons, prim, callR, giveOf, putBack, kd_0, kd_1, kd_2, kd_3, kd_4, kd_5, kd_6, kd_7, kd_8, kd_9, kd_10, kd_11, kd_12, kd_13, kd_14, kd_15, kd_16, kd_17, kd_18, kd_19, kd_20, kd_21, kd_22, kd_23, ad]) rfl rfl]
    show (forL _ _ _ [some (enc p), some (enc q), some (.dict []), none, none]).map id = _
    rw [hf]
    rfl
  rw [show fi_17.body = [(.asgO 2 (.dic [] [])), (.for_ (.tp [3, 4]) .each [(.op .add [(.var 0), (.var 1)])] accS), (.ret (.call 14 [(.own 2)]))] from rfl]
  simp only [ex_1, s0, sf]
  simp only [ex_0, ex_1, ex_asg, ex_asgO, ex_setI, ex_aug, ex_augI, ex_exp, ex_ite, ex_ret, ex_retO, ex_retN, ev_non, ev_bl, ev_int, ev_str, ew_var, ew_mv, ev_tup, ev_lst, ev_op, ev_not, ev_ite, ev_call, ev_dic, ev_and0, ev_and1, ev_or0, ev_or1, ev_es0, ev_es1, ev_os0, ev_osO, ev_osB, os_non, os_bl, os_int, os_str, os_var, os_mv, os_tup, os_lst, os_op, os_ite, os_call, os_not, os_mm, os_get, os_lc, os_dc, os_sortk, os_callk, ev_if0, ev_if1, ev_mm, ev_get, b_ok, t_ok, ab_ok, op_0, op_1, call_1, see, seeO, setS, setTg, setAll, startR, List.getElem?_cons_zero, List.getElem?_cons_succ, List.getElem?_nil, List.set_cons_zero, List.set_cons_succ, List.set_nil, List.length_cons, List.length_nil, List.map_cons, List.map_nil, List.cons_append, List.nil_append, List.replicate, Option.map_some, List.tail_cons, prim, callR, giveOf, putBack, kd_0, kd_1, kd_2, kd_3, kd_4, kd_5, kd_6, kd_7, kd_8, kd_9, kd_10, kd_11, kd_12, kd_13, kd_14, kd_15, kd_16, kd_17, kd_18, kd_19, kd_20, kd_21, kd_22, kd_23, r1, endOf, givenOf]
theorem c_plus (n : Nat) {m : Nat} {e : Int} {N1 N2 : Nat} {S1 S2 : Int} {p q : List (D × Int)} (hp : PolyC m e N1 S1 p) (hq : PolyC m e N2 S2 q) (hm : m ≤ 1000) (he : e ≤ 1000000) (hN : N1 + N2 ≤ 400) (hS : S1 + S2 ≤ 1000000000000000000) : callF pgm (n + 3) 4 [enc p, enc q] = .ret (enc (plusL p q)) [] := by
  have h6 : callF pgm (n + 2) 6 [enc p, enc q] = .ret (enc (plusL p q)) [] := by
    rw [callF_at (fi := fi_6) rfl rfl]
    exact added_body (fun hk hm hl => c_frozen n hk hm hl) (fun hP nd hl hc => c_checked n kf_mono hP nd hl hc) hp hq hm hN hS
  have ok := (plus_ok hp hq hN).1
  have h2 := c_need (n + 1) ok.keys hm he fun x hx => by have := ((poly_big ok).2 x hx).2; omega
  rw [callF_at (fi := fi_4) rfl rfl]
  generalize callF pgm (n + 2) = C at h6 h2
  generalize enc (plusL p q) = r at *
  simp only [fi_4, ex_0, ex_1, ex_asg, ex_asgO, ex_setI, ex_aug, ex_augI, ex_exp, ex_ite, ex_ret, ex_retO, ex_retN, ev_non, ev_bl, ev_int, ev_str, ew_var, ew_mv, ev_tup, ev_lst, ev_op, ev_not, ev_ite, ev_call, ev_dic, ev_and0, ev_and1, ev_or0, ev_or1, ev_es0, ev_es1, ev_os0, ev_osO, ev_osB, os_non, os_bl, os_int, os_str, os_var, os_mv, os_tup, os_lst, os_op, os_ite, os_call, os_not, os_mm, os_get, os_lc, os_dc, os_sortk, os_callk, ev_if0, ev_if1, ev_mm, ev_get, b_ok, t_ok, ab_ok, op_0, op_1, call_1, see, seeO, setS, setTg, setAll, startR, List.getElem?_cons_zero, List.getElem?_cons_succ, List.getElem?_nil, List.set_cons_zero, List.set_cons_succ, List.set_nil, List.length_cons, List.length_nil, List.map_cons, List.map_nil, List.cons_append, List.nil_append, List.replicate, Option.map_some, List.tail_cons, prim, callR, giveOf, putBack, kd_0, kd_1, kd_2, kd_3, kd_4, kd_5, kd_6, kd_7, kd_8, kd_9, kd_10, kd_11, kd_12, kd_13, kd_14, kd_15, kd_16, kd_17, kd_18, kd_19, kd_20, kd_21, kd_22, kd_23, h6, h2, endOf, givenOf]
theorem c_lplus (n : Nat) {m : Nat} {e : Int} {N1 N2 : Nat} {S1 S2 : Int} {p q : List (D × Int)} (hp : PolyC m e N1 S1 p) (hq : PolyC m e N2 S2 q) (hN : N1 + N2 ≤ 400) (hS : S1 + S2 ≤ 1000000000000000000) : callF pgm (n + 3) 17 [enc p, enc q] = .ret (enc (plusL p q)) [] := by
  rw [callF_at (fi := fi_17) rfl rfl]
  exact lplus_body (fun hP nd pos hl => c_normal n kf_mono hP nd pos hl) hp hq hN hS
/-! products -/
abbrev mulS : List S := [(.asg (.nm 8) (.call 3 [(.var 4), (.var 6)])), (.setI 2 (.var 8) (.op .add [(.get 2 [(.var 8), (.int 0)]), (.op .mul [(.var 5), (.var 7)])]))]
theorem row_step {C : Orc} {n1 n2 : Nat} {e1 e2 : Int} {x y : D} {c d : Int} {l : List (D × Int)} {A0 A1 A3 A8 : Option D} (k3 : C 3 [x, y] = .ret (mulD x y) []) (hx : MonoC n1 e1 x) (hy : MonoC n2 e2 y) (hn : n1 + n2 ≤ 1000) (hd : 1 ≤ d ∧ d ≤ 1000000000000000000) (hP : ∀ z ∈ l, MonoC (n1 + n2) (e1 + e2) z.1) (hl : l.length ≤ 1000) :
    exSs pgm C mulS [A0, A1, some (.dict (bk l)), A3, some x, some (.int c), some y, some (.int d), A8] = .nx [A0, A1, some (.dict (bk (addL (mulD x y) (c * d) l))), A3, some x, some (.int c), some y, some (.int d), some (mulD x y)] := by
  obtain ⟨v, g, pt⟩ := bk_add kf_mono (mul_mono hx hy hn).1 hP (by omega)
  have pt := pt (c * d)
  have pm : pMul [.int c, .int d] = some (.int (c * d)) := by
    simp only [pMul, mulOk_r (i := c) (j := d) (by omega) (by omega), if_true]
  generalize bk l = kvs at *
  generalize bk (addL (mulD x y) (c * d) l) = kvs2 at *
  generalize mulD x y = z at *
  simp only [mulS, ex_0, ex_1, ex_asg, ex_asgO, ex_setI, ex_aug, ex_augI, ex_exp, ex_ite, ex_ret, ex_retO, ex_retN, ev_non, ev_bl, ev_int, ev_str, ew_var, ew_mv, ev_tup, ev_lst, ev_op, ev_not, ev_ite, ev_call, ev_dic, ev_and0, ev_and1, ev_or0, ev_or1, ev_es0, ev_es1, ev_os0, ev_osO, ev_osB, os_non, os_bl, os_int, os_str, os_var, os_mv, os_tup, os_lst, os_op, os_ite, os_call, os_not, os_mm, os_get, os_lc, os_dc, os_sortk, os_callk, ev_if0, ev_if1, ev_mm, ev_get, b_ok, t_ok, ab_ok, op_0, op_1, call_1, see, seeO, setS, setTg, setAll, startR, List.getElem?_cons_zero, List.getElem?_cons_succ, List.getElem?_nil, List.set_cons_zero, List.set_cons_succ, List.set_nil, List.length_cons, List.length_nil, List.map_cons, List.map_nil, List.cons_append, List.nil_append, List.replicate, Option.map_some, List.tail_cons, prim, callR, giveOf, putBack, kd_0, kd_1, kd_2, kd_3, kd_4, kd_5, kd_6, kd_7, kd_8, kd_9, kd_10, kd_11, kd_12, kd_13, kd_14, kd_15, kd_16, kd_17, kd_18, kd_19, kd_20, kd_21, kd_22, kd_23, k3, g, pm, pAdd_ii, pt]
theorem add_keys {P : D → Prop} {k : D} {c : Int} {l : List (D × Int)} (hk : P k) (h : ∀ z ∈ l, P z.1) : (∀ z ∈ addL k c l, P z.1) ∧ (addL k c l).length ≤ l.length + 1 := by
  obtain ⟨q1, q2, q3, q4, q5⟩ := put_keys (k := k) (v := (getL k l).getD 0 + c) (l := l)
  refine ⟨fun z hz => ?_, q3⟩
  rcases q5 z hz with y | y
  · exact h z y
  · rw [y]; exact hk
theorem row_loop {C : Orc} {n1 n2 : Nat} {e1 e2 : Int} {x : D} {c : Int} {A0 A1 A3 : Option D} (hx : MonoC n1 e1 x) (hn : n1 + n2 ≤ 1000) (k3 : ∀ y, MonoC n2 e2 y → C 3 [x, y] = .ret (mulD x y) []) : ∀ (q l : List (D × Int)) (A6 A7 A8 : Option D), (∀ z ∈ q, MonoC n2 e2 z.1 ∧ 1 ≤ z.2 ∧ z.2 ≤ 1000000000000000000) → (∀ z ∈ l, MonoC (n1 + n2) (e1 + e2) z.1) → l.length + q.length ≤ 1000 →
    ∃ B6 B7 B8 : Option D, forL (fun r => exSs pgm C mulS r) (.tp [6, 7]) (q.map encP) [A0, A1, some (.dict (bk l)), A3, some x, some (.int c), A6, A7, A8] = .nx [A0, A1, some (.dict (bk ((q.map fun b => (mulD x b.1, c * b.2)).foldl (fun a p => addL p.1 p.2 a) l))), A3, some x, some (.int c), B6, B7, B8]
  | [], l, A6, A7, A8, _, _, _ => ⟨A6, A7, A8, rfl⟩
  | b :: q, l, A6, A7, A8, hq, hl, hlen => by
    obtain ⟨b1, b2, b3⟩ := hq b (by simp)
    rw [List.length_cons] at hlen
    have t := row_step (C := C) (c := c) (A0 := A0) (A1 := A1) (A3 := A3) (A8 := A8) (k3 b.1 b1) hx b1 hn ⟨b2, b3⟩ hl (by omega)
    obtain ⟨a1, a2⟩ := add_keys (c := c * b.2) (mul_mono hx b1 hn).1 hl
    rw [List.map_cons, forL_nx1 (ρ1 := [A0, A1, some (.dict (bk l)), A3, some x, some (.int c), some b.1, some (.int b.2), A8]) rfl t]
    exact row_loop hx hn k3 q _ _ _ _ (fun z hz => hq z (by simp [hz])) a1 (by omega)
abbrev mulT : List S := [(.for_ (.tp [6, 7]) .each [(.var 3)] mulS), (.exp (.call 1 [(.own 2)]))]
theorem fold_app {p : List (D × Int)} {q : List (D × Int)} {l : List (D × Int)} {a : D × Int} : (prodL (a :: p) q).foldl (fun a p => addL p.1 p.2 a) l = (prodL p q).foldl (fun a p => addL p.1 p.2 a) ((q.map fun b => (mulD a.1 b.1, a.2 * b.2)).foldl (fun a p => addL p.1 p.2 a) l) := by
  have : prodL (a :: p) q = (q.map fun b => (mulD a.1 b.1, a.2 * b.2)) ++ prodL p q := rfl
  rw [this, List.foldl_append]
theorem times_loop {C : Orc} (k1 : K1 C) {n1 n2 : Nat} {e1 e2 : Int} {q : List (D × Int)} {A0 A1 : Option D} (hn : n1 + n2 ≤ 1000) (hq : ∀ z ∈ q, MonoC n2 e2 z.1 ∧ 1 ≤ z.2 ∧ z.2 ≤ 1000000000) (k3 : ∀ x y, MonoC n1 e1 x → MonoC n2 e2 y → C 3 [x, y] = .ret (mulD x y) []) : ∀ (p l0 l : List (D × Int)) (A4 A5 A6 A7 A8 : Option D), (∀ z ∈ p, MonoC n1 e1 z.1 ∧ 1 ≤ z.2 ∧ z.2 ≤ 1000000000) → SumOk l0 l → (∀ z ∈ l0, MonoC (n1 + n2) (e1 + e2) z.1) → l0.length + p.length * q.length ≤ 400 → lin (fun _ => 1) l0 + lin (fun _ => 1) (prodL p q) ≤ 1000000000000000000 →
    ∃ B4 B5 B6 B7 B8 : Option D, forL (fun r => exSs pgm C mulT r) (.tp [4, 5]) (p.map encP) [A0, A1, some (.dict (bk l)), some (enc q), A4, A5, A6, A7, A8] = .nx [A0, A1, some (.dict (bk ((prodL p q).foldl (fun a p => addL p.1 p.2 a) l))), some (enc q), B4, B5, B6, B7, B8]
  | [], l0, l, A4, A5, A6, A7, A8, _, _, _, _, _ => ⟨A4, A5, A6, A7, A8, rfl⟩
  | a :: p, l0, l, A4, A5, A6, A7, A8, hp, so, hl0, hlen, hlin => by
    obtain ⟨a1, a2, a3⟩ := hp a (by simp)
    rw [List.length_cons, Nat.add_mul, Nat.one_mul] at hlen
    obtain ⟨row, hrow⟩ : ∃ row, row = q.map fun b => (mulD a.1 b.1, a.2 * b.2) := ⟨_, rfl⟩
    have rl : row.length = q.length := by rw [hrow, List.length_map]
    have rp : ∀ z ∈ row, MonoC (n1 + n2) (e1 + e2) z.1 ∧ 1 ≤ z.2 := fun z hz => by
      rw [hrow] at hz
      obtain ⟨b, hb, rfl⟩ := List.mem_map.mp hz
      obtain ⟨b1, b2, b3⟩ := hq b hb
      refine ⟨(mul_mono a1 b1 hn).1, ?_⟩
      have : 1 * 1 ≤ a.2 * b.2 := Int.mul_le_mul a2 b2 (by decide) (by omega)
      exact this
    have lk : ∀ z ∈ l, MonoC (n1 + n2) (e1 + e2) z.1 := fun z hz => by
      obtain ⟨r, hr, e⟩ := List.mem_map.mp ((so.keys z.1).mp (List.mem_map_of_mem hz))
      rw [← e]; exact hl0 r hr
    have ll := so.len
    obtain ⟨B6, B7, B8, h1⟩ := row_loop (C := C) (c := a.2) (A0 := A0) (A1 := A1) (A3 := some (enc q)) a1 hn (fun y hy => k3 a.1 y a1 hy) q l A6 A7 A8 (fun z hz => ⟨(hq z hz).1, (hq z hz).2.1, by have := (hq z hz).2.2; omega⟩) lk (by omega)
    rw [← hrow] at h1
    have so2 := sumOk_fold row so fun z hz => (rp z hz).2
    have keys2 : ∀ z ∈ l0 ++ row, MonoC (n1 + n2) (e1 + e2) z.1 := fun z hz => (List.mem_append.mp hz).elim (hl0 z) fun y => (rp z y).1
    have eL : lin (fun _ => 1) (prodL (a :: p) q) = lin (fun _ => 1) row + lin (fun _ => 1) (prodL p q) := by
      have : prodL (a :: p) q = row ++ prodL p q := by rw [hrow]; rfl
      rw [this, lin_app]
    rw [eL] at hlin
    have pos2 : 0 ≤ lin (fun _ => 1) (prodL p q) := (mem_tot fun z hz => by
      obtain ⟨x, hx, hz⟩ := List.mem_flatMap.mp hz
      obtain ⟨b, hb, rfl⟩ := List.mem_map.mp hz
      have : 1 * 1 ≤ x.2 * b.2 := Int.mul_le_mul (hp x (by simp [hx])).2.1 (hq b hb).2.1 (by decide) (by have := (hp x (by simp [hx])).2.1; omega)
      exact this).1
    obtain ⟨l2, hl2⟩ : ∃ l2, l2 = row.foldl (fun a p => addL p.1 p.2 a) l := ⟨_, rfl⟩
    rw [← hl2] at h1 so2
    have lk2 : ∀ z ∈ l2, MonoC (n1 + n2) (e1 + e2) z.1 := fun z hz => by
      obtain ⟨r, hr, e⟩ := List.mem_map.mp ((so2.keys z.1).mp (List.mem_map_of_mem hz))
      rw [← e]; exact keys2 r hr
    obtain ⟨s, r1, _, _⟩ := k1 lk2 so2.nd (by have := so2.len; rw [List.length_append] at this; omega) (fun z hz => by
      have := (mem_tot so2.pos).2 z hz
      rw [so2.lin, lin_app] at this
      omega)
    have t : exSs pgm C mulT [A0, A1, some (.dict (bk l)), some (enc q), some a.1, some (.int a.2), A6, A7, A8] = .nx [A0, A1, some (.dict (bk l2)), some (enc q), some a.1, some (.int a.2), B6, B7, B8] := by
      generalize bk l = kv1 at *
      generalize bk l2 = kv2 at *
      have t1 : exS pgm C (.for_ (.tp [6, 7]) .each [(.var 3)] mulS) [A0, A1, some (.dict kv1), some (enc q), some a.1, some (.int a.2), A6, A7, A8] = .nx [A0, A1, some (.dict kv2), some (enc q), some a.1, some (.int a.2), B6, B7, B8] := by
        rw [ex_for (os := [.inl (enc q)]) (ρ1 := [A0, A1, some (.dict kv1), some (enc q), some a.1, some (.int a.2), A6, A7, A8]) (ds := [enc q]) (items := q.map encP) (by simp only [ex_0, ex_1, ex_asg, ex_asgO, ex_setI, ex_aug, ex_augI, ex_exp, ex_ite, ex_ret, ex_retO, ex_retN, ev_non, ev_bl, ev_int, ev_str, ew_var, ew_mv, ev_tup, ev_lst, ev_op, ev_not, ev_ite, ev_call, ev_dic, ev_and0, ev_and1, ev_or0, ev_or1, ev_es0, ev_es1, ev_os0, ev_osO, ev_osB, os_non, os_bl, os_int, os_str, os_var, os_mv, os_tup, os_lst, os_op, os_ite, os_call, os_not, os_mm, os_get, os_lc, os_dc, os_sortk, os_callk, ev_if0, ev_if1, ev_mm, ev_get, b_ok, t_ok, ab_ok, op_0, op_1, call_1, see, seeO, setS, setTg, setAll, startR, List.getElem?_cons_zero, List.getElem?_cons_succ, List.getElem?_nil, List.set_cons_zero, List.set_cons_succ, List.set_nil, List.length_cons, List.length_nil, List.map_cons, List.map_nil, List.cons_append, List.nil_append, List.replicate, Option.map_some, List.tail_cons, prim, callR, giveOf, putBack, kd_0, kd_1, kd_2, kd_3, kd_4, kd_5, kd_6, kd_7, kd_8, kd_9, kd_10, kd_11, kd_12, kd_13, kd_14, kd_15, kd_16, kd_17, kd_18, kd_19, kd_20, kd_21, kd_22, kd_23]) rfl rfl]
        show (forL (fun r => exSs pgm C mulS r) _ _ [A0, A1, some (.dict kv1), some (enc q), some a.1, some (.int a.2), A6, A7, A8]).map id = _
        rw [h1]
        rfl
      rw [mulT, ex_1, t1]
      simp only [ex_0, ex_1, ex_asg, ex_asgO, ex_setI, ex_aug, ex_augI, ex_exp, ex_ite, ex_ret, ex_retO, ex_retN, ev_non, ev_bl, ev_int, ev_str, ew_var, ew_mv, ev_tup, ev_lst, ev_op, ev_not, ev_ite, ev_call, ev_dic, ev_and0, ev_and1, ev_or0, ev_or1, ev_es0, ev_es1, ev_os0, ev_osO, ev_osB, os_non, os_bl, os_int, os_str, os_var, os_mv, os_tup, os_lst, os_op, os_ite, os_call, os_not, os_mm, os_get, os_lc, os_dc, os_sortk, os_callk, ev_if0, ev_if1, ev_mm, ev_get, b_ok, t_ok, ab_ok, op_0, op_1, call_1, see, seeO, setS, setTg, setAll, startR, List.getElem?_cons_zero, List.getElem?_cons_succ, List.getElem?_nil, List.set_cons_zero, List.set_cons_succ, List.set_nil, List.length_cons, List.length_nil, List.map_cons, List.map_nil, List.cons_append, List.nil_append, List.replicate, Option.map_some, List.tail_cons, prim, callR, giveOf, putBack, kd_0, kd_1, kd_2, kd_3, kd_4, kd_5, kd_6, kd_7, kd_8, kd_9, kd_10, kd_11, kd_12, kd_13, kd_14, kd_15, kd_16, kd_17, kd_18, kd_19, kd_20, kd_21, kd_22, kd_23, r1]
    rw [List.map_cons, forL_nx1 (ρ1 := [A0, A1, some (.dict (bk l)), some (enc q), some a.1, some (.int a.2), A6, A7, A8]) rfl t, fold_app, ← hrow, ← hl2]
    exact times_loop k1 hn hq k3 p (l0 ++ row) l2 _ _ _ _ _ (fun z hz => hp z (by simp [hz])) so2 keys2 (by rw [List.length_append]; omega) (by rw [lin_app]; omega)
theorem mult_body {C : Orc} (k0 : K0 C) (k1 : K1 C) {n1 n2 : Nat} {e1 e2 : Int} {N1 N2 : Nat} {S1 S2 : Int} {p q : List (D × Int)} (hp : PolyC n1 e1 N1 S1 p) (hq : PolyC n2 e2 N2 S2 q) (hn : n1 + n2 ≤ 1000) (hN : N1 * N2 ≤ 400) (hpN : N1 ≤ 1000) (hqN : N2 ≤ 1000) (h1 : S1 ≤ 1000000000) (h2 : S2 ≤ 1000000000)
    (k3 : ∀ x y, MonoC n1 e1 x → MonoC n2 e2 y → C 3 [x, y] = .ret (mulD x y) []) : endOf pgm 7 (exSs pgm C fi_7.body (startR fi_7 [enc p, enc q])) = .ret (enc (timesL p q)) [] := by
  have it := times_items hp hq hn
  have pb := poly_big hp
  have qb := poly_big hq
  have so : SumOk (prodL p q) (sumL (prodL p q)) := sumOk fun x hx => (it x hx).2.1
  have pl : p.length * q.length ≤ 400 := Nat.le_trans (Nat.mul_le_mul hp.len hq.len) hN
  have tot : lin (fun _ => 1) (prodL p q) ≤ 1000000000000000000 := by
    rw [lin_prod]
    have e1 : lin (fun x => lin (fun y => (fun _ => (1 : Int)) (mulD x y)) q) p = lin (fun _ => 1) q * lin (fun _ => 1) p := by
      rw [← lin_mul]
      exact lin_congr fun _ _ => by rw [Int.mul_one]
    rw [e1]
    exact Int.mul_le_mul (Int.le_trans hq.tot h2) (Int.le_trans hp.tot h1) pb.1 (by decide)
  obtain ⟨B4, B5, B6, B7, B8, hf⟩ := times_loop (C := C) k1 (A0 := some (enc p)) (A1 := some (enc q)) hn (fun z hz => ⟨hq.keys z hz, (qb.2 z hz).1, by have := (qb.2 z hz).2; omega⟩) k3 p [] [] none none none none none (fun z hz => ⟨hp.keys z hz, (pb.2 z hz).1, by have := (pb.2 z hz).2; omega⟩) sumOk_nil (by simp) (by simp only [List.length_nil]; omega) (by rw [lin_nil]; omega)
  have hf : forL (fun r => exSs pgm C mulT r) (.tp [4, 5]) (p.map encP) [some (enc p), some (enc q), some (.dict []), some (enc q), none, none, none, none, none] = .nx [some (enc p), some (enc q), some (.dict (bk (sumL (prodL p q)))), some (enc q), B4, B5, B6, B7, B8] := hf
  obtain ⟨s, r1, r2, r3⟩ := k1 (sum_keys (fun x hx => (it x hx).1) so) so.nd (by have := so.len; rw [prod_len] at this; omega) (book_le so tot)
  have h0 := k0 hp.keys (by omega) (by have := hp.len; omega)
  have h1 := k0 hq.keys (by omega) (by have := hq.len; omega)
  unfold timesL
  rw [nf_of so r2 r3]
  generalize bk (sumL (prodL p q)) = kvs at *
  have s0 : exSs pgm C [(.asgO 2 (.dic [] [])), (.asg (.nm 3) (.call 0 [(.var 1)]))] (startR fi_7 [enc p, enc q]) = .nx [some (enc p), some (enc q), some (.dict []), some (enc q), none, none, none, none, none] := by
    show exSs pgm C _ [some (enc p), some (enc q), none, none, none, none, none, none, none] = _
    simp only [ex_0, ex_1, ex_asg, ex_asgO, ex_setI, ex_aug, ex_augI, ex_exp, ex_ite, ex_ret, ex_retO, ex_retN, ev_non, ev_bl, ev_int, ev_str, ew_var, ew_mv, ev_tup, ev_lst, ev_op, ev_not, ev_ite, ev_call, ev_dic, ev_and0, ev_and1, ev_or0, ev_or1, ev_es0, ev_es1, ev_os0, ev_osO, ev_osB, os_non, os_bl, os_int, os_str, os_var, os_mv, os_tup, os_lst, os_op, os_ite, os_call, os_not, os_mm, os_get, os_lc, os_dc, os_sortk, os_callk, ev_if0, ev_if1, ev_mm, ev_get, b_ok, t_ok, ab_ok, op_0, op_1, call_1, see, seeO, setS, setTg, setAll, startR, List.getElem?_cons_zero, List.getElem?_cons_succ, List.getElem?_nil, List.set_cons_zero, List.set_cons_succ, List.set_nil, List.length_cons, List.length_nil, List.map_cons, List.map_nil, List.cons_append, List.nil_append, List.replicate, Option.map_some, List.tail_cons, prim, callR, giveOf, putBack, kd_0, kd_1, kd_2, kd_3, kd_4, kd_5, kd_6, kd_7, kd_8, kd_9, kd_10, kd_11, kd_12, kd_13, kd_14, kd_15, kd_16, kd_17, kd_18, kd_19, kd_20, kd_21, kd_22, kd_23, isTopD, if_true, h1]
  have sf : exS pgm C (.for_ (.tp [4, 5]) .each [(.call 0 [(.var 0)])] mulT) [some (enc p), some (enc q), some (.dict []), some (enc q), none, none, none, none, none] = .nx [some (enc p), some (enc q), some (.dict kvs), some (enc q), B4, B5, B6, B7, B8] := by
    rw [ex_for (os := [.inl (enc p)]) (ρ1 := [some (enc p), some (enc q), some (.dict []), some (enc q), none, none, none, none, none]) (ds := [enc p]) (items := p.map encP) (by simp only [ex_0, ex_1, ex_asg, ex_asgO, ex_setI, ex_aug, ex_augI, ex_exp, ex_ite, ex_ret, ex_retO, ex_retN, ev_non, ev_bl, ev_int, ev_str, ew_var, ew_mv, ev_tup, ev_lst, ev_op, ev_not, ev_ite, ev_call, ev_dic, ev_and0, ev_and1, ev_or0, ev_or1, ev_es0, ev_es1, ev_os0, ev_osO, ev_osB, os_non, os_bl, os_int, os_str, os_var, os_mv, os_tup, os_lst, os_op, os_ite, os_call, os_not, os_mm, os_get, os_lc, os_dc, os_sortk, os_callk, ev_if0, ev_if1, ev_mm, ev_get, b_ok, t_ok, ab_ok, op_0, op_1, call_1, see, seeO, setS, setTg, setAll, startR, List.getElem?_cons_zero, List.getElem?_cons_succ, List.getElem?_nil, List.set_cons_zero, List.set_cons_succ, List.set_nil, List.length_cons, List.length_nil, List.map_cons, List.map_nil, List.cons_append, List.nil_append, List.replicate, Option.map_some, List.tail_cons, prim, callR, giveOf, putBack, kd_0, kd_1, kd_2, kd_3, kd_4, kd_5, kd_6, kd_7, kd_8, kd_9, kd_10, kd_11, kd_12, kd_13, kd_14, kd_15, kd_16, kd_17, kd_18, kd_19, kd_20, kd_21, kd_22, kd_23, h0]) rfl rfl]
    show (forL _ _ _ [some (enc p), some (enc q), some (.dict []), some (enc q), none, none, none, none, none]).map id = _
    rw [hf]
    rfl
  rw [show fi_7.body = [(.asgO 2 (.dic [] [])), (.asg (.nm 3) (.call 0 [(.var 1)]))] ++ [(.for_ (.tp [4, 5]) .each [(.call 0 [(.var 0)])] mulT), (.ret (.call 1 [(.own 2)]))] from rfl, ex_app, s0]
  simp only [ex_1, sf]
  simp only [ex_0, ex_1, ex_asg, ex_asgO, ex_setI, ex_aug, ex_augI, ex_exp, ex_ite, ex_ret, ex_retO, ex_retN, ev_non, ev_bl, ev_int, ev_str, ew_var, ew_mv, ev_tup, ev_lst, ev_op, ev_not, ev_ite, ev_call, ev_dic, ev_and0, ev_and1, ev_or0, ev_or1, ev_es0, ev_es1, ev_os0, ev_osO, ev_osB, os_non, os_bl, os_int, os_str, os_var, os_mv, os_tup, os_lst, os_op, os_ite, os_call, os_not, os_mm, os_get, os_lc, os_dc, os_sortk, os_callk, ev_if0, ev_if1, ev_mm, ev_get, b_ok, t_ok, ab_ok, op_0, op_1, call_1, see, seeO, setS, setTg, setAll, startR, List.getElem?_cons_zero, List.getElem?_cons_succ, List.getElem?_nil, List.set_cons_zero, List.set_cons_succ, List.set_nil, List.length_cons, List.length_nil, List.map_cons, List.map_nil, List.cons_append, List.nil_append, List.replicate, Option.map_some, List.tail_cons, prim, callR, giveOf, putBack, kd_0, kd_1, kd_2, kd_3, kd_4, kd_5, kd_6, kd_7, kd_8, kd_9, kd_10, kd_11, kd_12, kd_13, kd_14, kd_15, kd_16, kd_17, kd_18, kd_19, kd_20, kd_21, kd_22, kd_23, r1, endOf, givenOf]
theorem k3_of (n : Nat) {n1 n2 : Nat} {e1 e2 : Int} (hn : n1 + n2 ≤ 1000) (he : e1 ≤ 1000000 ∧ e2 ≤ 1000000) : ∀ x y, MonoC n1 e1 x → MonoC n2 e2 y → callF pgm (n + 1) 3 [x, y] = .ret (mulD x y) [] := fun x y ⟨a, ea, ha⟩ ⟨b, eb, hb⟩ => by
  rw [ea, eb]
  unfold mulD
  rw [dec_enc, dec_enc]
  exact c_prod n ha hb hn he
theorem k18_of (n : Nat) {n1 n2 : Nat} {e1 e2 : Int} (hn : n1 + n2 ≤ 1000) (he : e1 ≤ 1000000 ∧ e2 ≤ 1000000) : ∀ x y, MonoC n1 e1 x → MonoC n2 e2 y → callF pgm (n + 2) 18 [x, y] = .ret (mulD x y) [] := fun x y ⟨a, ea, ha⟩ ⟨b, eb, hb⟩ => by
  rw [ea, eb]
  unfold mulD
  rw [dec_enc, dec_enc]
  exact c_lprod n ha hb hn he
theorem c_times (n : Nat) {n1 n2 : Nat} {e1 e2 : Int} {N1 N2 : Nat} {S1 S2 : Int} {p q : List (D × Int)} (hp : PolyC n1 e1 N1 S1 p) (hq : PolyC n2 e2 N2 S2 q) (hn : n1 + n2 ≤ 1000) (he : e1 ≤ 100000 ∧ e2 ≤ 100000) (hN : N1 * N2 ≤ 400) (hpN : N1 ≤ 1000) (hqN : N2 ≤ 1000) (h1 : S1 ≤ 1000000000) (h2 : S2 ≤ 1000000000) (h0 : 0 ≤ S2) : callF pgm (n + 3) 5 [enc p, enc q] = .ret (enc (timesL p q)) [] := by
  have h7 : callF pgm (n + 2) 7 [enc p, enc q] = .ret (enc (timesL p q)) [] := by
    rw [callF_at (fi := fi_7) rfl rfl]
    exact mult_body (fun hk hm hl => c_frozen n hk hm hl) (fun hP nd hl hc => c_checked n kf_mono hP nd hl hc) hp hq hn hN hpN hqN h1 h2 (k3_of n hn ⟨by omega, by omega⟩)
  have ok := (times_ok hp hq hn hN).1
  have S : S1 * S2 ≤ 1000000000 * 1000000000 := Int.mul_le_mul h1 h2 h0 (by decide)
  have h2' := c_need (n + 1) ok.keys (by omega) (by omega) fun x hx => by have := ((poly_big ok).2 x hx).2; omega
  rw [callF_at (fi := fi_5) rfl rfl]
  generalize callF pgm (n + 2) = C at h7 h2'
  generalize enc (timesL p q) = r at *
  simp only [fi_5, ex_0, ex_1, ex_asg, ex_asgO, ex_setI, ex_aug, ex_augI, ex_exp, ex_ite, ex_ret, ex_retO, ex_retN, ev_non, ev_bl, ev_int, ev_str, ew_var, ew_mv, ev_tup, ev_lst, ev_op, ev_not, ev_ite, ev_call, ev_dic, ev_and0, ev_and1, ev_or0, ev_or1, ev_es0, ev_es1, ev_os0, ev_osO, ev_osB, os_non, os_bl, os_int, os_str, os_var, os_mv, os_tup, os_lst, os_op, os_ite, os_call, os_not, os_mm, os_get, os_lc, os_dc, os_sortk, os_callk, ev_if0, ev_if1, ev_mm, ev_get, b_ok, t_ok, ab_ok, op_0, op_1, call_1, see, seeO, setS, setTg, setAll, startR, List.getElem?_cons_zero, List.getElem?_cons_succ, List.getElem?_nil, List.set_cons_zero, List.set_cons_succ, List.set_nil, List.length_cons, List.length_nil, List.map_cons, List.map_nil, List.cons_append, List.nil_append, List.replicate, Option.map_some, List.tail_cons, prim, callR, giveOf, putBack, kd_0, kd_1, kd_2, kd_3, kd_4, kd_5, kd_6, kd_7, kd_8, kd_9, kd_10, kd_11, kd_12, kd_13, kd_14, kd_15, kd_16, kd_17, kd_18, kd_19, kd_20, kd_21, kd_22, kd_23, h7, h2', endOf, givenOf]
/-! the law's products -/
abbrev lmS : List S := [(.asg (.nm 5) (.call 18 [(.op .idx [(.var 3), (.int 0)]), (.op .idx [(.var 4), (.int 0)])])), (.setI 2 (.var 5) (.op .add [(.get 2 [(.var 5), (.int 0)]), (.op .mul [(.op .idx [(.var 3), (.int 1)]), (.op .idx [(.var 4), (.int 1)])])]))]
theorem lrow_step {C : Orc} {n1 n2 : Nat} {e1 e2 : Int} {x y : D} {c d : Int} {l : List (D × Int)} {A0 A1 A5 : Option D} (k18 : C 18 [x, y] = .ret (mulD x y) []) (hx : MonoC n1 e1 x) (hy : MonoC n2 e2 y) (hn : n1 + n2 ≤ 1000) (hd : 1 ≤ d ∧ d ≤ 1000000000000000000) (hP : ∀ z ∈ l, MonoC (n1 + n2) (e1 + e2) z.1) (hl : l.length ≤ 1000) :
    exSs pgm C lmS [A0, A1, some (.dict (bk l)), some (.tuple [x, .int c]), some (.tuple [y, .int d]), A5] = .nx [A0, A1, some (.dict (bk (addL (mulD x y) (c * d) l))), some (.tuple [x, .int c]), some (.tuple [y, .int d]), some (mulD x y)] := by
  obtain ⟨v, g, pt⟩ := bk_add kf_mono (mul_mono hx hy hn).1 hP (by omega)
  have pt := pt (c * d)
  have pm : pMul [.int c, .int d] = some (.int (c * d)) := by
    simp only [pMul, mulOk_r (i := c) (j := d) (by omega) (by omega), if_true]
  have i0 : ∀ {u v : D}, pIdx [.tuple [u, v], .int 0] = some u := rfl
  have i1 : ∀ {u v : D}, pIdx [.tuple [u, v], .int 1] = some v := rfl
  generalize bk l = kvs at *
  generalize bk (addL (mulD x y) (c * d) l) = kvs2 at *
  generalize mulD x y = z at *
  simp only [lmS, ex_0, ex_1, ex_asg, ex_asgO, ex_setI, ex_aug, ex_augI, ex_exp, ex_ite, ex_ret, ex_retO, ex_retN, ev_non, ev_bl, ev_int, ev_str, ew_var, ew_mv, ev_tup, ev_lst, ev_op, ev_not, ev_ite, ev_call, ev_dic, ev_and0, ev_and1, ev_or0, ev_or1, ev_es0, ev_es1, ev_os0, ev_osO, ev_osB, os_non, os_bl, os_int, os_str, os_var, os_mv, os_tup, os_lst, os_op, os_ite, os_call, os_not, os_mm, os_get, os_lc, os_dc, os_sortk, os_callk, ev_if0, ev_if1, ev_mm, ev_get, b_ok, t_ok, ab_ok, op_0, op_1, call_1, see, seeO, setS, setTg, setAll, startR, List.getElem?_cons_zero, List.getElem?_cons_succ, List.getElem?_nil, List.set_cons_zero, List.set_cons_succ, List.set_nil, List.length_cons, List.length_nil, List.map_cons, List.map_nil, List.cons_append, List.nil_append, List.replicate, Option.map_some, List.tail_cons, prim, callR, giveOf, putBack, kd_0, kd_1, kd_2, kd_3, kd_4, kd_5, kd_6, kd_7, kd_8, kd_9, kd_10, kd_11, kd_12, kd_13, kd_14, kd_15, kd_16, kd_17, kd_18, kd_19, kd_20, kd_21, kd_22, kd_23, i0, i1, k18, g, pm, pAdd_ii, pt]
theorem lrow_loop {C : Orc} {n1 n2 : Nat} {e1 e2 : Int} {x : D} {c : Int} {A0 A1 : Option D} (hx : MonoC n1 e1 x) (hn : n1 + n2 ≤ 1000) (k18 : ∀ y, MonoC n2 e2 y → C 18 [x, y] = .ret (mulD x y) []) : ∀ (q l : List (D × Int)) (A4 A5 : Option D), (∀ z ∈ q, MonoC n2 e2 z.1 ∧ 1 ≤ z.2 ∧ z.2 ≤ 1000000000000000000) → (∀ z ∈ l, MonoC (n1 + n2) (e1 + e2) z.1) → l.length + q.length ≤ 1000 →
    ∃ B4 B5 : Option D, forL (fun r => exSs pgm C lmS r) (.nm 4) (q.map encP) [A0, A1, some (.dict (bk l)), some (.tuple [x, .int c]), A4, A5] = .nx [A0, A1, some (.dict (bk ((q.map fun b => (mulD x b.1, c * b.2)).foldl (fun a p => addL p.1 p.2 a) l))), some (.tuple [x, .int c]), B4, B5]
  | [], l, A4, A5, _, _, _ => ⟨A4, A5, rfl⟩
  | b :: q, l, A4, A5, hq, hl, hlen => by
    obtain ⟨b1, b2, b3⟩ := hq b (by simp)
    rw [List.length_cons] at hlen
    have t := lrow_step (C := C) (c := c) (A0 := A0) (A1 := A1) (A5 := A5) (k18 b.1 b1) hx b1 hn ⟨b2, b3⟩ hl (by omega)
    obtain ⟨a1, a2⟩ := add_keys (c := c * b.2) (mul_mono hx b1 hn).1 hl
    rw [List.map_cons, forL_nx1 (ρ1 := [A0, A1, some (.dict (bk l)), some (.tuple [x, .int c]), some (.tuple [b.1, .int b.2]), A5]) rfl t]
    exact lrow_loop hx hn k18 q _ _ _ (fun z hz => hq z (by simp [hz])) a1 (by omega)
theorem ltimes_loop {C : Orc} {n1 n2 : Nat} {e1 e2 : Int} {q : List (D × Int)} {A0 : Option D} (hn : n1 + n2 ≤ 1000) (hq : ∀ z ∈ q, MonoC n2 e2 z.1 ∧ 1 ≤ z.2 ∧ z.2 ≤ 1000000000) (k18 : ∀ x y, MonoC n1 e1 x → MonoC n2 e2 y → C 18 [x, y] = .ret (mulD x y) []) : ∀ (p l : List (D × Int)) (A3 A4 A5 : Option D), (∀ z ∈ p, MonoC n1 e1 z.1 ∧ 1 ≤ z.2 ∧ z.2 ≤ 1000000000) → (∀ z ∈ l, MonoC (n1 + n2) (e1 + e2) z.1) → l.length + p.length * q.length ≤ 400 →
    ∃ B3 B4 B5 : Option D, forL (fun r => exSs pgm C [(.for_ (.nm 4) .each [(.var 1)] lmS)] r) (.nm 3) (p.map encP) [A0, some (enc q), some (.dict (bk l)), A3, A4, A5] = .nx [A0, some (enc q), some (.dict (bk ((prodL p q).foldl (fun a p => addL p.1 p.2 a) l))), B3, B4, B5]
  | [], l, A3, A4, A5, _, _, _ => ⟨A3, A4, A5, rfl⟩
  | a :: p, l, A3, A4, A5, hp, hl, hlen => by
    obtain ⟨a1, a2, a3⟩ := hp a (by simp)
    rw [List.length_cons, Nat.add_mul, Nat.one_mul] at hlen
    obtain ⟨B4, B5, h1⟩ := lrow_loop (C := C) (c := a.2) (A0 := A0) (A1 := some (enc q)) a1 hn (fun y hy => k18 a.1 y a1 hy) q l A4 A5 (fun z hz => ⟨(hq z hz).1, (hq z hz).2.1, by have := (hq z hz).2.2; omega⟩) hl (by omega)
    have keep : ∀ (xs l : List (D × Int)), (∀ z ∈ xs, MonoC (n1 + n2) (e1 + e2) z.1) → (∀ z ∈ l, MonoC (n1 + n2) (e1 + e2) z.1) → (∀ z ∈ xs.foldl (fun a p => addL p.1 p.2 a) l, MonoC (n1 + n2) (e1 + e2) z.1) ∧ (xs.foldl (fun a p => addL p.1 p.2 a) l).length ≤ l.length + xs.length := fun xs => by
      induction xs with
      | nil => exact fun l _ h => ⟨h, Nat.le_refl _⟩
      | cons x xs ih =>
        intro l hx h
        obtain ⟨u1, u2⟩ := add_keys (c := x.2) (hx x (by simp)) h
        obtain ⟨v1, v2⟩ := ih (addL x.1 x.2 l) (fun z hz => hx z (by simp [hz])) u1
        refine ⟨v1, ?_⟩
        rw [List.foldl_cons, List.length_cons]
        omega
    obtain ⟨w1, w2⟩ := keep (q.map fun b => (mulD a.1 b.1, a.2 * b.2)) l (fun z hz => by
      obtain ⟨b, hb, rfl⟩ := List.mem_map.mp hz
      exact (mul_mono a1 (hq b hb).1 hn).1) hl
    rw [List.length_map] at w2
    have t : exSs pgm C [(.for_ (.nm 4) .each [(.var 1)] lmS)] [A0, some (enc q), some (.dict (bk l)), some (.tuple [a.1, .int a.2]), A4, A5] = .nx [A0, some (enc q), some (.dict (bk ((q.map fun b => (mulD a.1 b.1, a.2 * b.2)).foldl (fun a p => addL p.1 p.2 a) l))), some (.tuple [a.1, .int a.2]), B4, B5] := by
      generalize bk ((q.map fun b => (mulD a.1 b.1, a.2 * b.2)).foldl (fun a p => addL p.1 p.2 a) l) = kv2 at *
      generalize bk l = kv1 at *
      have t1 : exS pgm C (.for_ (.nm 4) .each [(.var 1)] lmS) [A0, some (enc q), some (.dict kv1), some (.tuple [a.1, .int a.2]), A4, A5] = .nx [A0, some (enc q), some (.dict kv2), some (.tuple [a.1, .int a.2]), B4, B5] := by
        rw [ex_for (os := [.inl (enc q)]) (ρ1 := [A0, some (enc q), some (.dict kv1), some (.tuple [a.1, .int a.2]), A4, A5]) (ds := [enc q]) (items := q.map encP) (by simp only [ex_0, ex_1, ex_asg, ex_asgO, ex_setI, ex_aug, ex_augI, ex_exp, ex_ite, ex_ret, ex_retO, ex_retN, ev_non, ev_bl, ev_int, ev_str, ew_var, ew_mv, ev_tup, ev_lst, ev_op, ev_not, ev_ite, ev_call, ev_dic, ev_and0, ev_and1, ev_or0, ev_or1, ev_es0, ev_es1, ev_os0, ev_osO, ev_osB, os_non, os_bl, os_int, os_str, os_var, os_mv, os_tup, os_lst, os_op, os_ite, os_call, os_not, os_mm, os_get, os_lc, os_dc, os_sortk, os_callk, ev_if0, ev_if1, ev_mm, ev_get, b_ok, t_ok, ab_ok, op_0, op_1, call_1, see, seeO, setS, setTg, setAll, startR, List.getElem?_cons_zero, List.getElem?_cons_succ, List.getElem?_nil, List.set_cons_zero, List.set_cons_succ, List.set_nil, List.length_cons, List.length_nil, List.map_cons, List.map_nil, List.cons_append, List.nil_append, List.replicate, Option.map_some, List.tail_cons, prim, callR, giveOf, putBack, kd_0, kd_1, kd_2, kd_3, kd_4, kd_5, kd_6, kd_7, kd_8, kd_9, kd_10, kd_11, kd_12, kd_13, kd_14, kd_15, kd_16, kd_17, kd_18, kd_19, kd_20, kd_21, kd_22, kd_23]) rfl rfl]
        show (forL (fun r => exSs pgm C lmS r) _ _ [A0, some (enc q), some (.dict kv1), some (.tuple [a.1, .int a.2]), A4, A5]).map id = _
        rw [h1]
        rfl
      rw [ex_1, t1]
      simp only [ex_0]
    rw [List.map_cons, forL_nx1 (ρ1 := [A0, some (enc q), some (.dict (bk l)), some (.tuple [a.1, .int a.2]), A4, A5]) rfl t, fold_app]
    exact ltimes_loop hn hq k18 p _ _ _ _ (fun z hz => hp z (by simp [hz])) w1 (by omega)
theorem c_ltimes (n : Nat) {n1 n2 : Nat} {e1 e2 : Int} {N1 N2 : Nat} {S1 S2 : Int} {p q : List (D × Int)} (hp : PolyC n1 e1 N1 S1 p) (hq : PolyC n2 e2 N2 S2 q) (hn : n1 + n2 ≤ 1000) (he : e1 ≤ 100000 ∧ e2 ≤ 100000) (hN : N1 * N2 ≤ 400) (h1 : S1 ≤ 1000000000) (h2 : S2 ≤ 1000000000) : callF pgm (n + 3) 19 [enc p, enc q] = .ret (enc (timesL p q)) [] := by
  rw [callF_at (fi := fi_19) rfl rfl]
  have k18 := k18_of n hn (show e1 ≤ 1000000 ∧ e2 ≤ 1000000 from ⟨by omega, by omega⟩)
  have k14 : K14 (callF pgm (n + 2)) := fun hP nd pos hl => c_normal n kf_mono hP nd pos hl
  generalize callF pgm (n + 2) = C at k18 k14
  have it := times_items hp hq hn
  have pb := poly_big hp
  have qb := poly_big hq
  have so : SumOk (prodL p q) (sumL (prodL p q)) := sumOk fun x hx => (it x hx).2.1
  have pl : p.length * q.length ≤ 400 := Nat.le_trans (Nat.mul_le_mul hp.len hq.len) hN
  obtain ⟨B3, B4, B5, hf⟩ := ltimes_loop (C := C) (A0 := some (enc p)) hn (fun z hz => ⟨hq.keys z hz, (qb.2 z hz).1, by have := (qb.2 z hz).2; omega⟩) k18 p [] none none none (fun z hz => ⟨hp.keys z hz, (pb.2 z hz).1, by have := (pb.2 z hz).2; omega⟩) (by simp) (by simp only [List.length_nil]; omega)
  have hf : forL (fun r => exSs pgm C [(.for_ (.nm 4) .each [(.var 1)] lmS)] r) (.nm 3) (p.map encP) [some (enc p), some (enc q), some (.dict []), none, none, none] = .nx [some (enc p), some (enc q), some (.dict (bk (sumL (prodL p q)))), B3, B4, B5] := hf
  obtain ⟨s, r1, r2, r3⟩ := k14 (sum_keys (fun x hx => (it x hx).1) so) so.nd so.pos (by have := so.len; rw [prod_len] at this; omega)
  unfold timesL
  rw [nf_of so r2 r3]
  generalize bk (sumL (prodL p q)) = kvs at *
  have s0 : exS pgm C (.asgO 2 (.dic [] [])) (startR fi_19 [enc p, enc q]) = .nx [some (enc p), some (enc q), some (.dict []), none, none, none] := by
    show exS pgm C (.asgO 2 (.dic [] [])) [some (enc p), some (enc q), none, none, none, none] = _
    simp only [ex_0, ex_1, ex_asg, ex_asgO, ex_setI, ex_aug, ex_augI, ex_exp, ex_ite, ex_ret, ex_retO, ex_retN, ev_non, ev_bl, ev_int, ev_str, ew_var, ew_mv, ev_tup, ev_lst, ev_op, ev_not, ev_ite, ev_call, ev_dic, ev_and0, ev_and1, ev_or0, ev_or1, ev_es0, ev_es1, ev_os0, ev_osO, ev_osB, os_non, os_bl, os_int, os_str, os_var, os_mv, os_tup, os_lst, os_op, os_ite, os_call, os_not, os_mm, os_get, os_lc, os_dc, os_sortk, os_callk, ev_if0, ev_if1, ev_mm, ev_get, b_ok, t_ok, ab_ok, op_0, op_1, call_1, see, seeO, setS, setTg, setAll, startR, List.getElem?_cons_zero, List.getElem?_cons_succ, List.getElem?_nil, List.set_cons_zero, List.set_cons_succ, List.set_nil, List.length_cons, List.length_nil, List.map_cons, List.map_nil, List.cons_append, List.nil_append, List.replicate, Option.map_some, List.tail_cons, prim, callR, giveOf, putBack, kd_0, kd_1, kd_2, kd_3, kd_4, kd_5, kd_6, kd_7, kd_8, kd_9, kd_10, kd_11, kd_12, kd_13, kd_14, kd_15, kd_16, kd_17, kd_18, kd_19, kd_20, kd_21, kd_22, kd_23, isTopD, if_true]
  have sf : exS pgm C (.for_ (.nm 3) .each [(.var 0)] [(.for_ (.nm 4) .each [(.var 1)] lmS)]) [some (enc p), some (enc q), some (.dict []), none, none, none] = .nx [some (enc p), some (enc q), some (.dict kvs), B3, B4, B5] := by
    rw [ex_for (os := [.inl (enc p)]) (ρ1 := [some (enc p), some (enc q), some (.dict []), none, none, none]) (ds := [enc p]) (items := p.map encP) (by simp only [ex_0, ex_1, ex_asg, ex_asgO, ex_setI, ex_aug, ex_augI, ex_exp, ex_ite, ex_ret, ex_retO, ex_retN, ev_non, ev_bl, ev_int, ev_str, ew_var, ew_mv, ev_tup, ev_lst, ev_op, ev_not, ev_ite, ev_call, ev_dic, ev_and0, ev_and1, ev_or0, ev_or1, ev_es0, ev_es1, ev_os0, ev_osO, ev_osB, os_non, os_bl, os_int, os_str, os_var, os_mv, os_tup, os_lst, os_op, os_ite, os_call, os_not, os_mm, os_get, os_lc, os_dc, os_sortk, os_callk, ev_if0, ev_if1, ev_mm, ev_get, b_ok, t_ok, ab_ok, op_0, op_1, call_1, see, seeO, setS, setTg, setAll, startR, List.getElem?_cons_zero, List.getElem?_cons_succ, List.getElem?_nil, List.set_cons_zero, List.set_cons_succ, List.set_nil, List.length_cons, List.length_nil, List.map_cons, List.map_nil, List.cons_append, List.nil_append, List.replicate, Option.map_some, List.tail_cons, prim, callR, giveOf, putBack, kd_0, kd_1, kd_2, kd_3, kd_4, kd_5, kd_6, kd_7, kd_8, kd_9, kd_10, kd_11, kd_12, kd_13, kd_14, kd_15, kd_16, kd_17, kd_18, kd_19, kd_20, kd_21, kd_22, kd_23]) rfl rfl]
    show (forL _ _ _ [some (enc p), some (enc q), some (.dict []), none, none, none]).map id = _
    rw [hf]
    rfl
  rw [show fi_19.body = [(.asgO 2 (.dic [] [])), (.for_ (.nm 3) .each [(.var 0)] [(.for_ (.nm 4) .each [(.var 1)] lmS)]), (.ret (.call 14 [(.own 2)]))] from rfl]
  simp only [ex_1, s0, sf]
  simp only [ex_0, ex_1, ex_asg, ex_asgO, ex_setI, ex_aug, ex_augI, ex_exp, ex_ite, ex_ret, ex_retO, ex_retN, ev_non, ev_bl, ev_int, ev_str, ew_var, ew_mv, ev_tup, ev_lst, ev_op, ev_not, ev_ite, ev_call, ev_dic, ev_and0, ev_and1, ev_or0, ev_or1, ev_es0, ev_es1, ev_os0, ev_osO, ev_osB, os_non, os_bl, os_int, os_str, os_var, os_mv, os_tup, os_lst, os_op, os_ite, os_call, os_not, os_mm, os_get, os_lc, os_dc, os_sortk, os_callk, ev_if0, ev_if1, ev_mm, ev_get, b_ok, t_ok, ab_ok, op_0, op_1, call_1, see, seeO, setS, setTg, setAll, startR, List.getElem?_cons_zero, List.getElem?_cons_succ, List.getElem?_nil, List.set_cons_zero, List.set_cons_succ, List.set_nil, List.length_cons, List.length_nil, List.map_cons, List.map_nil, List.cons_append, List.nil_append, List.replicate, Option.map_some, List.tail_cons, prim, callR, giveOf, putBack, kd_0, kd_1, kd_2, kd_3, kd_4, kd_5, kd_6, kd_7, kd_8, kd_9, kd_10, kd_11, kd_12, kd_13, kd_14, kd_15, kd_16, kd_17, kd_18, kd_19, kd_20, kd_21, kd_22, kd_23, r1, endOf, givenOf]
end PV

set_option maxHeartbeats 4000000
namespace PV
open PySem
/-! ### law_k02: the algebra -/
theorem mul_assoc' {n1 n2 n3 : Nat} {e1 e2 e3 : Int} {x y z : D} (hx : MonoC n1 e1 x) (hy : MonoC n2 e2 y) (hz : MonoC n3 e3 z) (hn : n1 + n2 + n3 ≤ 1000) : mulD (mulD x y) z = mulD x (mulD y z) := by
  have h1 := mul_mono hx hy (by omega)
  have h2 := mul_mono hy hz (by omega)
  have h3 := mul_mono h1.1 hz (by omega)
  have h4 := mul_mono hx h2.1 (by omega)
  exact mono_ext h3.1 h4.1 fun f => by rw [h3.2, h1.2, h4.2, h2.2]; omega
theorem mul_comm' {n1 n2 : Nat} {e1 e2 : Int} {x y : D} (hx : MonoC n1 e1 x) (hy : MonoC n2 e2 y) (hn : n1 + n2 ≤ 1000) : mulD x y = mulD y x := by
  have h1 := mul_mono hx hy (by omega)
  have h2 := mul_mono hy hx (by omega)
  exact mono_ext h1.1 h2.1 fun f => by rw [h1.2, h2.2]; omega
theorem one_mono : MonoC 0 0 (enc []) := ⟨[], rfl, ⟨.nil, by simp⟩, by simp, by simp, by rw [lin_nil]; decide⟩
theorem mul_one' {n1 : Nat} {e1 : Int} {x : D} (hx : MonoC n1 e1 x) (hn : n1 ≤ 1000) : mulD x (enc []) = x := by
  have h1 := mul_mono hx one_mono (by omega)
  exact mono_ext h1.1 hx fun f => by rw [h1.2, dec_enc, lin_nil]; omega
abbrev Pol (p : List (D × Int)) : Prop := PolyC 3 36 5 5000 p
theorem zero_pol : Pol [] := ⟨⟨.nil, by simp⟩, by simp, by simp, by rw [lin_nil]; decide⟩
abbrev oneL : List (D × Int) := [(enc [], 1)]
theorem one_pol : Pol oneL := ⟨⟨by simp, by simp⟩, fun q hq => by
  rw [List.mem_singleton.mp hq]
  obtain ⟨a, e, h⟩ := one_mono
  exact ⟨a, e, h.mono (by omega) (by omega)⟩, by simp, by rw [lin_cons, lin_nil]; decide⟩
section
variable {p q r : List (D × Int)}
theorem plus_pol (hp : Pol p) (hq : Pol q) : PolyC 3 36 10 10000 (plusL p q) ∧ ∀ f, lin f (plusL p q) = lin f p + lin f q := plus_ok hp hq (by omega)
theorem times_pol (hp : Pol p) (hq : Pol q) : PolyC 6 72 25 25000000 (timesL p q) ∧ ∀ f, lin f (timesL p q) = lin (fun x => lin (fun y => f (mulD x y)) q) p := times_ok hp hq (by omega) (by omega)
theorem pl_assoc (hp : Pol p) (hq : Pol q) (hr : Pol r) : plusL p (plusL q r) = plusL (plusL p q) r := by
  have h1 := plus_pol hp hq
  have h2 := plus_pol hq hr
  have h3 := plus_ok h1.1 hr (by omega)
  have h4 := plus_ok hp h2.1 (by omega)
  exact h4.1.can.ext h3.1.can fun f => by rw [h4.2, h2.2, h3.2, h1.2]; omega
theorem pl_turn (hp : Pol p) (hq : Pol q) (hr : Pol r) : plusL r (plusL q p) = plusL (plusL p q) r := by
  have h1 := plus_pol hp hq
  have h2 := plus_pol hq hp
  have h3 := plus_ok h1.1 hr (by omega)
  have h4 := plus_ok hr h2.1 (by omega)
  exact h4.1.can.ext h3.1.can fun f => by rw [h4.2, h2.2, h3.2, h1.2]; omega
theorem pl_zero (hp : Pol p) : plusL p [] = p ∧ plusL [] p = p := by
  have h1 := plus_pol hp zero_pol
  have h2 := plus_pol zero_pol hp
  exact ⟨h1.1.can.ext hp.can fun f => by rw [h1.2, lin_nil]; omega, h2.1.can.ext hp.can fun f => by rw [h2.2, lin_nil]; omega⟩
theorem ti_assoc (hp : Pol p) (hq : Pol q) (hr : Pol r) : timesL p (timesL q r) = timesL (timesL p q) r := by
  have h1 := times_pol hp hq
  have h2 := times_pol hq hr
  have h3 := times_ok h1.1 hr (by omega) (by omega)
  have h4 := times_ok hp h2.1 (by omega) (by omega)
  refine h4.1.can.ext h3.1.can fun f => ?_
  rw [h4.2, h3.2, h1.2]
  refine lin_congr fun x hx => ?_
  rw [h2.2]
  refine lin_congr fun y hy => lin_congr fun z hz => ?_
  rw [mul_assoc' (hp.keys x hx) (hq.keys y hy) (hr.keys z hz) (by omega)]
theorem ti_turn (hp : Pol p) (hq : Pol q) (hr : Pol r) : timesL r (timesL q p) = timesL (timesL p q) r := by
  have h1 := times_pol hp hq
  have h2 := times_pol hq hp
  have h3 := times_ok h1.1 hr (by omega) (by omega)
  have h4 := times_ok hr h2.1 (by omega) (by omega)
  refine h4.1.can.ext h3.1.can fun f => ?_
  rw [h4.2, h3.2, h1.2]
  have e1 : lin (fun z => lin (fun w => f (mulD z w)) (timesL q p)) r = lin (fun z => lin (fun x => lin (fun y => f (mulD z (mulD y x))) q) p) r := lin_congr fun z _ => by rw [h2.2, lin_swap]
  rw [e1, lin_swap]
  refine lin_congr fun x hx => ?_
  rw [lin_swap]
  refine lin_congr fun y hy => lin_congr fun z hz => ?_
  have hx := hp.keys x hx
  have hy := hq.keys y hy
  have hz := hr.keys z hz
  rw [mul_comm' hx hy (by omega), mul_comm' (mul_mono hy hx (by omega)).1 hz (by omega)]
theorem ti_one (hp : Pol p) : timesL p oneL = p ∧ timesL oneL p = p := by
  have h1 := times_pol hp one_pol
  have h2 := times_pol one_pol hp
  refine ⟨h1.1.can.ext hp.can fun f => ?_, h2.1.can.ext hp.can fun f => ?_⟩
  · rw [h1.2]
    refine lin_congr fun x hx => ?_
    rw [lin_cons, lin_nil, mul_one' (hp.keys x hx) (by omega)]
    omega
  · rw [h2.2, lin_cons, lin_nil]
    show 1 * lin (fun y => f (mulD (enc []) y)) p + 0 = _
    rw [Int.one_mul, Int.add_zero]
    refine lin_congr fun x hx => ?_
    rw [mul_comm' one_mono (hp.keys x hx) (by omega), mul_one' (hp.keys x hx) (by omega)]
theorem ti_zero (hp : Pol p) : timesL p [] = [] ∧ timesL [] p = [] := by
  have h1 := times_pol hp zero_pol
  have h2 := times_pol zero_pol hp
  refine ⟨h1.1.can.ext zero_pol.can fun f => ?_, h2.1.can.ext zero_pol.can fun f => ?_⟩
  · rw [h1.2]
    exact lin_zero
  · rw [h2.2]
    rfl
theorem ti_plus (hp : Pol p) (hq : Pol q) (hr : Pol r) : timesL p (plusL q r) = plusL (timesL p q) (timesL p r) := by
  have h1 := times_pol hp hq
  have h2 := times_pol hp hr
  have h3 := plus_pol hq hr
  have h4 := plus_ok h1.1 h2.1 (by omega)
  have h5 := times_ok hp h3.1 (by omega) (by omega)
  refine h5.1.can.ext h4.1.can fun f => ?_
  rw [h5.2, h4.2, h1.2, h2.2, ← lin_add2]
  exact lin_congr fun x _ => h3.2 _
theorem plus_ti (hp : Pol p) (hq : Pol q) (hr : Pol r) : timesL (plusL q r) p = plusL (timesL p q) (timesL p r) := by
  have h1 := times_pol hp hq
  have h2 := times_pol hp hr
  have h3 := plus_pol hq hr
  have h4 := plus_ok h1.1 h2.1 (by omega)
  have h5 := times_ok h3.1 hp (by omega) (by omega)
  refine h5.1.can.ext h4.1.can fun f => ?_
  rw [h5.2, h3.2, h4.2, h1.2, h2.2]
  have turn : ∀ {q : List (D × Int)}, Pol q → lin (fun x => lin (fun y => f (mulD x y)) p) q = lin (fun x => lin (fun y => f (mulD x y)) q) p := fun {q} hq => by
    rw [lin_swap]
    exact lin_congr fun x hx => lin_congr fun y hy => by rw [mul_comm' (hq.keys y hy) (hp.keys x hx) (by omega)]
  rw [turn hq, turn hr]
end
/-! ### alike -/
def AlikeOk : Nat → D → Prop
  | 0, d => (∃ i, d = .int i) ∨ ∃ s, d = .str s
  | k + 1, d => ((∃ i, d = .int i) ∨ ∃ s, d = .str s) ∨ ∃ ds, (d = .tuple ds ∨ d = .list ds) ∧ ds.length ≤ 1000 ∧ ∀ x ∈ ds, AlikeOk k x
theorem al_atom {C : Orc} {d : D} (h : (∃ i, d = .int i) ∨ ∃ s, d = .str s) : endOf pgm 11 (exSs pgm C fi_11.body (startR fi_11 [d, d])) = .ret (.bool true) [] := by
  rcases h with ⟨i, rfl⟩ | ⟨s, rfl⟩
  · simp only [fi_11, ex_0, ex_1, ex_asg, ex_asgO, ex_setI, ex_aug, ex_augI, ex_exp, ex_ite, ex_ret, ex_retO, ex_retN, ev_non, ev_bl, ev_int, ev_str, ew_var, ew_mv, ev_tup, ev_lst, ev_op, ev_not, ev_ite, ev_call, ev_dic, ev_and0, ev_and1, ev_or0, ev_or1, ev_es0, ev_es1, ev_os0, ev_osO, ev_osB, os_non, os_bl, os_int, os_str, os_var, os_mv, os_tup, os_lst, os_op, os_ite, os_call, os_not, os_mm, os_get, os_lc, os_dc, os_sortk, os_callk, ev_if0, ev_if1, ev_mm, ev_get, b_ok, t_ok, ab_ok, op_0, op_1, call_1, see, seeO, setS, setTg, setAll, startR, List.getElem?_cons_zero, List.getElem?_cons_succ, List.getElem?_nil, List.set_cons_zero, List.set_cons_succ, List.set_nil, List.length_cons, List.length_nil, List.map_cons, List.map_nil, List.cons_append, List.nil_append, List.replicate, Option.map_some, List.tail_cons, prim, callR, giveOf, putBack, kd_0, kd_1, kd_2, kd_3, kd_4, kd_5, kd_6, kd_7, kd_8, kd_9, kd_10, kd_11, kd_12, kd_13, kd_14, kd_15, kd_16, kd_17, kd_18, kd_19, kd_20, kd_21, kd_22, kd_23, pIsa, isaT, pIsN, isNoneD, pEq_int, List.any_cons, List.any_nil, Bool.or_false, Bool.not_false, if_false, if_true, Bool.false_eq_true, decide_true, endOf, givenOf]
  · have e : pEq [.str s, .str s] = some (.bool true) := by
      show (if cmpOk (.str s) (.str s) then some (PyData.bool (PyData.eqv (.str s) (.str s))) else none) = _
      rw [if_pos (isT_cmp (t := .str) rfl rfl (by decide)), (isT_eqv .str (.str s) (.str s) rfl rfl).mpr rfl]
    simp only [fi_11, ex_0, ex_1, ex_asg, ex_asgO, ex_setI, ex_aug, ex_augI, ex_exp, ex_ite, ex_ret, ex_retO, ex_retN, ev_non, ev_bl, ev_int, ev_str, ew_var, ew_mv, ev_tup, ev_lst, ev_op, ev_not, ev_ite, ev_call, ev_dic, ev_and0, ev_and1, ev_or0, ev_or1, ev_es0, ev_es1, ev_os0, ev_osO, ev_osB, os_non, os_bl, os_int, os_str, os_var, os_mv, os_tup, os_lst, os_op, os_ite, os_call, os_not, os_mm, os_get, os_lc, os_dc, os_sortk, os_callk, ev_if0, ev_if1, ev_mm, ev_get, b_ok, t_ok, ab_ok, op_0, op_1, call_1, see, seeO, setS, setTg, setAll, startR, List.getElem?_cons_zero, List.getElem?_cons_succ, List.getElem?_nil, List.set_cons_zero, List.set_cons_succ, List.set_nil, List.length_cons, List.length_nil, List.map_cons, List.map_nil, List.cons_append, List.nil_append, List.replicate, Option.map_some, List.tail_cons, prim, callR, giveOf, putBack, kd_0, kd_1, kd_2, kd_3, kd_4, kd_5, kd_6, kd_7, kd_8, kd_9, kd_10, kd_11, kd_12, kd_13, kd_14, kd_15, kd_16, kd_17, kd_18, kd_19, kd_20, kd_21, kd_22, kd_23, pIsa, isaT, pIsN, isNoneD, e, List.any_cons, List.any_nil, Bool.or_false, Bool.not_false, if_false, if_true, Bool.false_eq_true, decide_true, endOf, givenOf]
abbrev alS : List S := [(.ite (.not (.call 11 [(.op .idx [(.var 0), (.var 2)]), (.op .idx [(.var 1), (.var 2)])])) [(.ret (.bl false))] [])]
theorem al_seq {C : Orc} {d : D} {ds : List D} {o : Option D} (ed : d = .tuple ds ∨ d = .list ds) (sf : exS pgm C (.for_ (.nm 2) .rng1 [(.op .len [(.var 1)])] alS) [some d, some d, none] = .nx [some d, some d, o]) : endOf pgm 11 (exSs pgm C fi_11.body (startR fi_11 [d, d])) = .ret (.bool true) [] := by
  obtain ⟨b4, h4⟩ : ∃ b, pIsa [4] [d] = some (.bool b) := ⟨_, rfl⟩
  obtain ⟨b3, h3⟩ : ∃ b, pIsa [3] [d] = some (.bool b) := ⟨_, rfl⟩
  have h43 : pIsa [4, 3] [d] = some (.bool true) := by rcases ed with rfl | rfl <;> rfl
  have hl : pLen [d] = some (.int (ds.length : Nat)) := by rcases ed with rfl | rfl <;> rfl
  have nb : ∀ b : Bool, pNe [.bool b, .bool b] = some (.bool false) := fun b => by cases b <;> rfl
  have s1 : exS pgm C (.ite (.or [(.op .ne [(.op (.isa [4]) [(.var 0)]), (.op (.isa [4]) [(.var 1)])]), (.op .ne [(.op (.isa [3]) [(.var 0)]), (.op (.isa [3]) [(.var 1)])])]) [(.ret (.bl false))] []) [some d, some d, none] = .nx [some d, some d, none] := by
    simp only [ex_0, ex_1, ex_asg, ex_asgO, ex_setI, ex_aug, ex_augI, ex_exp, ex_ite, ex_ret, ex_retO, ex_retN, ev_non, ev_bl, ev_int, ev_str, ew_var, ew_mv, ev_tup, ev_lst, ev_op, ev_not, ev_ite, ev_call, ev_dic, ev_and0, ev_and1, ev_or0, ev_or1, ev_es0, ev_es1, ev_os0, ev_osO, ev_osB, os_non, os_bl, os_int, os_str, os_var, os_mv, os_tup, os_lst, os_op, os_ite, os_call, os_not, os_mm, os_get, os_lc, os_dc, os_sortk, os_callk, ev_if0, ev_if1, ev_mm, ev_get, b_ok, t_ok, ab_ok, op_0, op_1, call_1, see, seeO, setS, setTg, setAll, startR, List.getElem?_cons_zero, List.getElem?_cons_succ, List.getElem?_nil, List.set_cons_zero, List.set_cons_succ, List.set_nil, List.length_cons, List.length_nil, List.map_cons, List.map_nil, List.cons_append, List.nil_append, List.replicate, Option.map_some, List.tail_cons, prim, callR, giveOf, putBack, kd_0, kd_1, kd_2, kd_3, kd_4, kd_5, kd_6, kd_7, kd_8, kd_9, kd_10, kd_11, kd_12, kd_13, kd_14, kd_15, kd_16, kd_17, kd_18, kd_19, kd_20, kd_21, kd_22, kd_23, h4, h3, nb, if_false, Bool.false_eq_true]
  have s2 : exS pgm C (.ite (.op .ne [(.op .len [(.var 0)]), (.op .len [(.var 1)])]) [(.ret (.bl false))] []) [some d, some d, none] = .nx [some d, some d, none] := by
    simp only [ex_0, ex_1, ex_asg, ex_asgO, ex_setI, ex_aug, ex_augI, ex_exp, ex_ite, ex_ret, ex_retO, ex_retN, ev_non, ev_bl, ev_int, ev_str, ew_var, ew_mv, ev_tup, ev_lst, ev_op, ev_not, ev_ite, ev_call, ev_dic, ev_and0, ev_and1, ev_or0, ev_or1, ev_es0, ev_es1, ev_os0, ev_osO, ev_osB, os_non, os_bl, os_int, os_str, os_var, os_mv, os_tup, os_lst, os_op, os_ite, os_call, os_not, os_mm, os_get, os_lc, os_dc, os_sortk, os_callk, ev_if0, ev_if1, ev_mm, ev_get, b_ok, t_ok, ab_ok, op_0, op_1, call_1, see, seeO, setS, setTg, setAll, startR, List.getElem?_cons_zero, List.getElem?_cons_succ, List.getElem?_nil, List.set_cons_zero, List.set_cons_succ, List.set_nil, List.length_cons, List.length_nil, List.map_cons, List.map_nil, List.cons_append, List.nil_append, List.replicate, Option.map_some, List.tail_cons, prim, callR, giveOf, putBack, kd_0, kd_1, kd_2, kd_3, kd_4, kd_5, kd_6, kd_7, kd_8, kd_9, kd_10, kd_11, kd_12, kd_13, kd_14, kd_15, kd_16, kd_17, kd_18, kd_19, kd_20, kd_21, kd_22, kd_23, hl, pNe_int, decide_true, Bool.not_true, if_false, Bool.false_eq_true]
  have s3 : exS pgm C (.ite (.op (.isa [4, 3]) [(.var 1)]) [(.ite (.or [(.op .ne [(.op (.isa [4]) [(.var 0)]), (.op (.isa [4]) [(.var 1)])]), (.op .ne [(.op (.isa [3]) [(.var 0)]), (.op (.isa [3]) [(.var 1)])])]) [(.ret (.bl false))] []),
    (.ite (.op .ne [(.op .len [(.var 0)]), (.op .len [(.var 1)])]) [(.ret (.bl false))] []),
    (.for_ (.nm 2) .rng1 [(.op .len [(.var 1)])] alS),
    (.ret (.bl true))] []) [some d, some d, none] = .ret (.bool true) [some d, some d, o] := by
    have t1 : asBool (evE pgm C (.op (.isa [4, 3]) [(.var 1)]) [some d, some d, none]) = .ok true [some d, some d, none] := by
      simp only [ex_0, ex_1, ex_asg, ex_asgO, ex_setI, ex_aug, ex_augI, ex_exp, ex_ite, ex_ret, ex_retO, ex_retN, ev_non, ev_bl, ev_int, ev_str, ew_var, ew_mv, ev_tup, ev_lst, ev_op, ev_not, ev_ite, ev_call, ev_dic, ev_and0, ev_and1, ev_or0, ev_or1, ev_es0, ev_es1, ev_os0, ev_osO, ev_osB, os_non, os_bl, os_int, os_str, os_var, os_mv, os_tup, os_lst, os_op, os_ite, os_call, os_not, os_mm, os_get, os_lc, os_dc, os_sortk, os_callk, ev_if0, ev_if1, ev_mm, ev_get, b_ok, t_ok, ab_ok, op_0, op_1, call_1, see, seeO, setS, setTg, setAll, startR, List.getElem?_cons_zero, List.getElem?_cons_succ, List.getElem?_nil, List.set_cons_zero, List.set_cons_succ, List.set_nil, List.length_cons, List.length_nil, List.map_cons, List.map_nil, List.cons_append, List.nil_append, List.replicate, Option.map_some, List.tail_cons, prim, callR, giveOf, putBack, kd_0, kd_1, kd_2, kd_3, kd_4, kd_5, kd_6, kd_7, kd_8, kd_9, kd_10, kd_11, kd_12, kd_13, kd_14, kd_15, kd_16, kd_17, kd_18, kd_19, kd_20, kd_21, kd_22, kd_23, h43]
    rw [ex_ite, t1, t_ok]
    simp only [if_true, ex_1, s1, s2, sf, ex_ret, ev_bl, t_ok]
  show endOf pgm 11 (exSs pgm C (_ :: _) [some d, some d, none]) = _
  rw [ex_1, s3]
  rfl
theorem c_alike (n : Nat) : ∀ (k : Nat) (d : D), AlikeOk k d → callF pgm (n + k + 1) 11 [d, d] = .ret (.bool true) [] := by
  have atom : ∀ (n : Nat) (d : D), ((∃ i, d = .int i) ∨ ∃ s, d = .str s) → callF pgm (n + 1) 11 [d, d] = .ret (.bool true) [] := fun n d h => by
    rw [callF_at (fi := fi_11) rfl rfl]
    exact al_atom h
  intro k
  induction k with
  | zero => exact fun r h => atom _ _ h
  | succ k ih =>
    intro d h
    rcases h with h | ⟨ds, ed, hl, h⟩
    · exact atom _ _ h
    · rw [callF_at (fi := fi_11) rfl rfl]
      have hlen : pLen [d] = some (.int (ds.length : Nat)) := by rcases ed with rfl | rfl <;> rfl
      obtain ⟨ρ', hf, o, rfl⟩ : ∃ ρ', forL (fun r => exSs pgm (callF pgm (n + (k + 1))) alS r) (.nm 2) ((List.range ds.length).map fun (k : Nat) => PyData.int (k : Int)) [some d, some d, none] = .nx ρ' ∧
          ∃ o : Option D, ρ' = [some d, some d, o] := by
        refine forL_nx (fun pre ρ => ∃ o : Option D, ρ = [some d, some d, o]) _ _ ⟨_, rfl⟩ ?_
        rintro pre x post ρ hx ⟨o, rfl⟩
        have hx : x ∈ (List.range ds.length).map fun (k : Nat) => PyData.int (k : Int) := by rw [hx]; simp
        obtain ⟨j, hj, rfl⟩ := List.mem_map.mp hx
        have hj := List.mem_range.mp hj
        have ix : pIdx [d, .int (j : Int)] = some ds[j] := by
          rcases ed with rfl | rfl
          · exact pIdx_tuple (List.getElem?_eq_getElem hj)
          · exact pIdx_list (List.getElem?_eq_getElem hj)
        have sm := ih ds[j] (h _ (List.getElem_mem hj))
        refine ⟨_, _, rfl, .inl ?_, some (.int (j : Int)), rfl⟩
        rw [show n + (k + 1) = n + k + 1 from rfl]
        simp only [alS, ex_0, ex_1, ex_asg, ex_asgO, ex_setI, ex_aug, ex_augI, ex_exp, ex_ite, ex_ret, ex_retO, ex_retN, ev_non, ev_bl, ev_int, ev_str, ew_var, ew_mv, ev_tup, ev_lst, ev_op, ev_not, ev_ite, ev_call, ev_dic, ev_and0, ev_and1, ev_or0, ev_or1, ev_es0, ev_es1, ev_os0, ev_osO, ev_osB, os_non, os_bl, os_int, os_str, os_var, os_mv, os_tup, os_lst, os_op, os_ite, os_call, os_not, os_mm, os_get, os_lc, os_dc, os_sortk, os_callk, ev_if0, ev_if1, ev_mm, ev_get, b_ok, t_ok, ab_ok, op_0, op_1, call_1, see, seeO, setS, setTg, setAll, startR, List.getElem?_cons_zero, List.getElem?_cons_succ, List.getElem?_nil, List.set_cons_zero, List.set_cons_succ, List.set_nil, List.length_cons, List.length_nil, List.map_cons, List.map_nil, List.cons_append, List.nil_append, List.replicate, Option.map_some, List.tail_cons, prim, callR, giveOf, putBack, kd_0, kd_1, kd_2, kd_3, kd_4, kd_5, kd_6, kd_7, kd_8, kd_9, kd_10, kd_11, kd_12, kd_13, kd_14, kd_15, kd_16, kd_17, kd_18, kd_19, kd_20, kd_21, kd_22, kd_23, ix, sm, Bool.not_true, if_false, Bool.false_eq_true]
      have sf : exS pgm (callF pgm (n + (k + 1))) (.for_ (.nm 2) .rng1 [(.op .len [(.var 1)])] alS) [some d, some d, none] = .nx [some d, some d, o] := by
        rw [ex_for (os := [.inl (.int (ds.length : Nat))]) (ρ1 := [some d, some d, none]) (ds := [.int (ds.length : Nat)]) (by simp only [ex_0, ex_1, ex_asg, ex_asgO, ex_setI, ex_aug, ex_augI, ex_exp, ex_ite, ex_ret, ex_retO, ex_retN, ev_non, ev_bl, ev_int, ev_str, ew_var, ew_mv, ev_tup, ev_lst, ev_op, ev_not, ev_ite, ev_call, ev_dic, ev_and0, ev_and1, ev_or0, ev_or1, ev_es0, ev_es1, ev_os0, ev_osO, ev_osB, os_non, os_bl, os_int, os_str, os_var, os_mv, os_tup, os_lst, os_op, os_ite, os_call, os_not, os_mm, os_get, os_lc, os_dc, os_sortk, os_callk, ev_if0, ev_if1, ev_mm, ev_get, b_ok, t_ok, ab_ok, op_0, op_1, call_1, see, seeO, setS, setTg, setAll, startR, List.getElem?_cons_zero, List.getElem?_cons_succ, List.getElem?_nil, List.set_cons_zero, List.set_cons_succ, List.set_nil, List.length_cons, List.length_nil, List.map_cons, List.map_nil, List.cons_append, List.nil_append, List.replicate, Option.map_some, List.tail_cons, prim, callR, giveOf, putBack, kd_0, kd_1, kd_2, kd_3, kd_4, kd_5, kd_6, kd_7, kd_8, kd_9, kd_10, kd_11, kd_12, kd_13, kd_14, kd_15, kd_16, kd_17, kd_18, kd_19, kd_20, kd_21, kd_22, kd_23, hlen]) rfl (src_rng _ (by omega))]
        show (forL (fun r => exSs pgm (callF pgm (n + (k + 1))) alS r) _ _ [some d, some d, none]).map id = _
        rw [hf]
        rfl
      exact al_seq ed sf
theorem poly_alike {n : Nat} {e : Int} {N : Nat} {S : Int} {p : List (D × Int)} (h : PolyC n e N S p) (hn : n ≤ 1000) (hN : N ≤ 1000) : AlikeOk 4 (enc p) := by
  refine .inr ⟨_, .inl rfl, by rw [List.length_map]; have := h.len; omega, fun x hx => ?_⟩
  obtain ⟨q, hq, rfl⟩ := List.mem_map.mp hx
  obtain ⟨a, ea, ha⟩ := h.keys q hq
  refine .inr ⟨[q.1, .int q.2], .inl rfl, by simp, fun y hy => ?_⟩
  rcases List.mem_cons.mp hy with rfl | hy
  · rw [ea]
    refine .inr ⟨_, .inl rfl, by rw [List.length_map]; have := ha.len; omega, fun z hz => ?_⟩
    obtain ⟨b, hb, rfl⟩ := List.mem_map.mp hz
    refine .inr ⟨[b.1, .int b.2], .inl rfl, by simp, fun y hy => ?_⟩
    rcases List.mem_cons.mp hy with rfl | hy
    · obtain ⟨s, es⟩ := isT_str (ha.ty b hb)
      exact .inr ⟨s, es⟩
    · rw [List.mem_singleton.mp hy]; exact .inl ⟨_, rfl⟩
  · rw [List.mem_singleton.mp hy]; exact .inl (.inl ⟨_, rfl⟩)
theorem list_alike {l : List D} (h : ∀ x ∈ l, AlikeOk 4 x) (hl : l.length ≤ 1000) : AlikeOk 5 (.list l) := .inr ⟨l, .inr rfl, hl, h⟩
/-! ### the law -/
structure Calls (C : Orc) : Prop where
  plus : ∀ {m : Nat} {e : Int} {N1 N2 : Nat} {S1 S2 : Int} {p q : List (D × Int)} (hp : PolyC m e N1 S1 p) (hq : PolyC m e N2 S2 q) (hm : m ≤ 1000) (he : e ≤ 1000000) (hN : N1 + N2 ≤ 400) (hS : S1 + S2 ≤ 1000000000000000000), C 4 [enc p, enc q] = .ret (enc (plusL p q)) []
  lplus : ∀ {m : Nat} {e : Int} {N1 N2 : Nat} {S1 S2 : Int} {p q : List (D × Int)} (hp : PolyC m e N1 S1 p) (hq : PolyC m e N2 S2 q) (hN : N1 + N2 ≤ 400) (hS : S1 + S2 ≤ 1000000000000000000), C 17 [enc p, enc q] = .ret (enc (plusL p q)) []
  times : ∀ {n1 n2 : Nat} {e1 e2 : Int} {N1 N2 : Nat} {S1 S2 : Int} {p q : List (D × Int)} (hp : PolyC n1 e1 N1 S1 p) (hq : PolyC n2 e2 N2 S2 q) (hn : n1 + n2 ≤ 1000) (he : e1 ≤ 100000 ∧ e2 ≤ 100000) (hN : N1 * N2 ≤ 400) (hpN : N1 ≤ 1000) (hqN : N2 ≤ 1000) (h1 : S1 ≤ 1000000000) (h2 : S2 ≤ 1000000000) (h0 : 0 ≤ S2), C 5 [enc p, enc q] = .ret (enc (timesL p q)) []
  ltimes : ∀ {n1 n2 : Nat} {e1 e2 : Int} {N1 N2 : Nat} {S1 S2 : Int} {p q : List (D × Int)} (hp : PolyC n1 e1 N1 S1 p) (hq : PolyC n2 e2 N2 S2 q) (hn : n1 + n2 ≤ 1000) (he : e1 ≤ 100000 ∧ e2 ≤ 100000) (hN : N1 * N2 ≤ 400) (h1 : S1 ≤ 1000000000) (h2 : S2 ≤ 1000000000), C 19 [enc p, enc q] = .ret (enc (timesL p q)) []
  alike : ∀ d, AlikeOk 5 d → C 11 [d, d] = .ret (.bool true) []
theorem ev_glo2 {C : Orc} {ρ : Rho} : evE pgm C (.glo 2) ρ = .ok (enc []) ρ := by
  rw [evE]
  rfl
theorem ev_glo3 {C : Orc} {ρ : Rho} : evE pgm C (.glo 3) ρ = .ok (enc oneL) ρ := by
  rw [evE]
  rfl
section
variable {C : Orc} {p q r : List (D × Int)}
theorem summed_body (K : Calls C) (hp : Pol p) (hq : Pol q) (hr : Pol r) : endOf pgm 20 (exSs pgm C fi_20.body (startR fi_20 [enc p, enc q, enc r])) = .ret (.bool true) [] := by
  have pq := plus_pol hp hq
  have qr := plus_pol hq hr
  have qp := plus_pol hq hp
  have a1 := K.lplus hp hq (by omega) (by omega)
  have a2 := K.lplus pq.1 hr (by omega) (by omega)
  have a3 := K.plus hp hq (by omega) (by omega) (by omega) (by omega)
  have a4 := K.plus pq.1 hr (by omega) (by omega) (by omega) (by omega)
  have a5 := K.plus hq hr (by omega) (by omega) (by omega) (by omega)
  have a6 := K.plus hp qr.1 (by omega) (by omega) (by omega) (by omega)
  have a7 := K.plus hq hp (by omega) (by omega) (by omega) (by omega)
  have a8 := K.plus hr qp.1 (by omega) (by omega) (by omega) (by omega)
  have a9 := K.plus hp zero_pol (by omega) (by omega) (by omega) (by omega)
  have a10 := K.plus zero_pol hp (by omega) (by omega) (by omega) (by omega)
  rw [pl_assoc hp hq hr] at a6
  rw [pl_turn hp hq hr] at a8
  rw [(pl_zero hp).1] at a9
  rw [(pl_zero hp).2] at a10
  have due := (plus_ok pq.1 hr (by omega)).1
  have ald := poly_alike due (by omega) (by omega)
  have alp := poly_alike hp (by omega) (by omega)
  generalize enc (plusL (plusL p q) r) = du at *
  have k1 := K.alike (.list [du, du, du]) (list_alike (fun x hx => by simp only [List.mem_cons, List.not_mem_nil, or_false, or_self] at hx; rw [hx]; exact ald) (by simp))
  generalize enc p = p' at *
  have k2 := K.alike (.list [p', p']) (list_alike (fun x hx => by simp only [List.mem_cons, List.not_mem_nil, or_false, or_self] at hx; rw [hx]; exact alp) (by simp))
  generalize enc q = q' at *
  generalize enc r = r' at *
  generalize hz : enc [] = z at *
  have g2 : ∀ ρ : Rho, evE pgm C (.glo 2) ρ = .ok z ρ := fun ρ => by rw [ev_glo2, hz]
  simp only [fi_20, ex_0, ex_1, ex_asg, ex_asgO, ex_setI, ex_aug, ex_augI, ex_exp, ex_ite, ex_ret, ex_retO, ex_retN, ev_non, ev_bl, ev_int, ev_str, ew_var, ew_mv, ev_tup, ev_lst, ev_op, ev_not, ev_ite, ev_call, ev_dic, ev_and0, ev_and1, ev_or0, ev_or1, ev_es0, ev_es1, ev_os0, ev_osO, ev_osB, os_non, os_bl, os_int, os_str, os_var, os_mv, os_tup, os_lst, os_op, os_ite, os_call, os_not, os_mm, os_get, os_lc, os_dc, os_sortk, os_callk, ev_if0, ev_if1, ev_mm, ev_get, b_ok, t_ok, ab_ok, op_0, op_1, call_1, see, seeO, setS, setTg, setAll, startR, List.getElem?_cons_zero, List.getElem?_cons_succ, List.getElem?_nil, List.set_cons_zero, List.set_cons_succ, List.set_nil, List.length_cons, List.length_nil, List.map_cons, List.map_nil, List.cons_append, List.nil_append, List.replicate, Option.map_some, List.tail_cons, prim, callR, giveOf, putBack, kd_0, kd_1, kd_2, kd_3, kd_4, kd_5, kd_6, kd_7, kd_8, kd_9, kd_10, kd_11, kd_12, kd_13, kd_14, kd_15, kd_16, kd_17, kd_18, kd_19, kd_20, kd_21, kd_22, kd_23, a1, a2, a3, a4, a5, a6, a7, a8, Nat.reduceAdd, ft0, ft1, ft2, ft3, ft4, ft5, ft6, ft7, ft8, ft9, ft10, if_true, k1, Bool.not_true, if_false, Bool.false_eq_true, os_glo, g2, a9, a10, k2, endOf, givenOf]
theorem multiplied_body (K : Calls C) (hp : Pol p) (hq : Pol q) (hr : Pol r) : endOf pgm 21 (exSs pgm C fi_21.body (startR fi_21 [enc p, enc q, enc r])) = .ret (.bool true) [] := by
  have pq := times_pol hp hq
  have qr := times_pol hq hr
  have qp := times_pol hq hp
  have a1 := K.ltimes hp hq (by omega) (by omega) (by omega) (by omega) (by omega)
  have a2 := K.ltimes pq.1 hr (by omega) (by omega) (by omega) (by omega) (by omega)
  have a3 := K.times hp hq (by omega) (by omega) (by omega) (by omega) (by omega) (by omega) (by omega) (by omega)
  have a4 := K.times pq.1 hr (by omega) (by omega) (by omega) (by omega) (by omega) (by omega) (by omega) (by omega)
  have a5 := K.times hq hr (by omega) (by omega) (by omega) (by omega) (by omega) (by omega) (by omega) (by omega)
  have a6 := K.times hp qr.1 (by omega) (by omega) (by omega) (by omega) (by omega) (by omega) (by omega) (by omega)
  have a7 := K.times hq hp (by omega) (by omega) (by omega) (by omega) (by omega) (by omega) (by omega) (by omega)
  have a8 := K.times hr qp.1 (by omega) (by omega) (by omega) (by omega) (by omega) (by omega) (by omega) (by omega)
  have a9 := K.times hp one_pol (by omega) (by omega) (by omega) (by omega) (by omega) (by omega) (by omega) (by omega)
  have a10 := K.times one_pol hp (by omega) (by omega) (by omega) (by omega) (by omega) (by omega) (by omega) (by omega)
  have a11 := K.times hp zero_pol (by omega) (by omega) (by omega) (by omega) (by omega) (by omega) (by omega) (by omega)
  have a12 := K.times zero_pol hp (by omega) (by omega) (by omega) (by omega) (by omega) (by omega) (by omega) (by omega)
  rw [ti_assoc hp hq hr] at a6
  rw [ti_turn hp hq hr] at a8
  rw [(ti_one hp).1] at a9
  rw [(ti_one hp).2] at a10
  rw [(ti_zero hp).1] at a11
  rw [(ti_zero hp).2] at a12
  have due := (times_ok pq.1 hr (by omega) (by omega)).1
  have ald := poly_alike due (by omega) (by omega)
  have alp := poly_alike hp (by omega) (by omega)
  have alz := poly_alike zero_pol (by omega) (by omega)
  generalize enc (timesL (timesL p q) r) = du at *
  have k1 := K.alike (.list [du, du, du]) (list_alike (fun x hx => by simp only [List.mem_cons, List.not_mem_nil, or_false, or_self] at hx; rw [hx]; exact ald) (by simp))
  have k2 := K.alike (.list [enc p, enc p, .tuple [], .tuple []]) (list_alike (fun x hx => by
    simp only [List.mem_cons, List.not_mem_nil, or_false] at hx
    rcases hx with rfl | rfl | rfl | rfl
    · exact alp
    · exact alp
    · exact alz
    · exact alz) (by simp))
  have g2 : ∀ ρ : Rho, evE pgm C (.glo 2) ρ = .ok (.tuple []) ρ := fun ρ => ev_glo2
  have a11 : C 5 [enc p, .tuple []] = .ret (.tuple []) [] := a11
  have a12 : C 5 [.tuple [], enc p] = .ret (.tuple []) [] := a12
  generalize enc p = p' at *
  generalize enc q = q' at *
  generalize enc r = r' at *
  generalize hz : enc oneL = z at *
  have g3 : ∀ ρ : Rho, evE pgm C (.glo 3) ρ = .ok z ρ := fun ρ => by rw [ev_glo3, hz]
  simp only [fi_21, ex_0, ex_1, ex_asg, ex_asgO, ex_setI, ex_aug, ex_augI, ex_exp, ex_ite, ex_ret, ex_retO, ex_retN, ev_non, ev_bl, ev_int, ev_str, ew_var, ew_mv, ev_tup, ev_lst, ev_op, ev_not, ev_ite, ev_call, ev_dic, ev_and0, ev_and1, ev_or0, ev_or1, ev_es0, ev_es1, ev_os0, ev_osO, ev_osB, os_non, os_bl, os_int, os_str, os_var, os_mv, os_tup, os_lst, os_op, os_ite, os_call, os_not, os_mm, os_get, os_lc, os_dc, os_sortk, os_callk, ev_if0, ev_if1, ev_mm, ev_get, b_ok, t_ok, ab_ok, op_0, op_1, call_1, see, seeO, setS, setTg, setAll, startR, List.getElem?_cons_zero, List.getElem?_cons_succ, List.getElem?_nil, List.set_cons_zero, List.set_cons_succ, List.set_nil, List.length_cons, List.length_nil, List.map_cons, List.map_nil, List.cons_append, List.nil_append, List.replicate, Option.map_some, List.tail_cons, prim, callR, giveOf, putBack, kd_0, kd_1, kd_2, kd_3, kd_4, kd_5, kd_6, kd_7, kd_8, kd_9, kd_10, kd_11, kd_12, kd_13, kd_14, kd_15, kd_16, kd_17, kd_18, kd_19, kd_20, kd_21, kd_22, kd_23, a1, a2, a3, a4, a5, a6, a7, a8, Nat.reduceAdd, ft0, ft1, ft2, ft3, ft4, ft5, ft6, ft7, ft8, ft9, ft10, if_true, k1, Bool.not_true, if_false, Bool.false_eq_true, os_glo, g2, g3, a9, a10, a11, a12, k2, endOf, givenOf]
theorem parted_body (K : Calls C) (hp : Pol p) (hq : Pol q) (hr : Pol r) : endOf pgm 22 (exSs pgm C fi_22.body (startR fi_22 [enc p, enc q, enc r])) = .ret (.bool true) [] := by
  have pq := times_pol hp hq
  have pr := times_pol hp hr
  have qr := plus_pol hq hr
  have a1 := K.ltimes hp hq (by omega) (by omega) (by omega) (by omega) (by omega)
  have a2 := K.ltimes hp hr (by omega) (by omega) (by omega) (by omega) (by omega)
  have a3 := K.lplus pq.1 pr.1 (by omega) (by omega)
  have a4 := K.plus hq hr (by omega) (by omega) (by omega) (by omega)
  have a5 := K.times hp qr.1 (by omega) (by omega) (by omega) (by omega) (by omega) (by omega) (by omega) (by omega)
  have a6 := K.times hp hq (by omega) (by omega) (by omega) (by omega) (by omega) (by omega) (by omega) (by omega)
  have a7 := K.times hp hr (by omega) (by omega) (by omega) (by omega) (by omega) (by omega) (by omega) (by omega)
  have a8 := K.plus pq.1 pr.1 (by omega) (by omega) (by omega) (by omega)
  have a9 := K.times qr.1 hp (by omega) (by omega) (by omega) (by omega) (by omega) (by omega) (by omega) (by omega)
  rw [ti_plus hp hq hr] at a5
  rw [plus_ti hp hq hr] at a9
  have due := (plus_ok pq.1 pr.1 (by omega)).1
  have ald := poly_alike due (by omega) (by omega)
  generalize enc (plusL (timesL p q) (timesL p r)) = du at *
  have k1 := K.alike (.list [du, du, du]) (list_alike (fun x hx => by simp only [List.mem_cons, List.not_mem_nil, or_false, or_self] at hx; rw [hx]; exact ald) (by simp))
  generalize enc p = p' at *
  generalize enc q = q' at *
  generalize enc r = r' at *
  simp only [fi_22, ex_0, ex_1, ex_asg, ex_asgO, ex_setI, ex_aug, ex_augI, ex_exp, ex_ite, ex_ret, ex_retO, ex_retN, ev_non, ev_bl, ev_int, ev_str, ew_var, ew_mv, ev_tup, ev_lst, ev_op, ev_not, ev_ite, ev_call, ev_dic, ev_and0, ev_and1, ev_or0, ev_or1, ev_es0, ev_es1, ev_os0, ev_osO, ev_osB, os_non, os_bl, os_int, os_str, os_var, os_mv, os_tup, os_lst, os_op, os_ite, os_call, os_not, os_mm, os_get, os_lc, os_dc, os_sortk, os_callk, ev_if0, ev_if1, ev_mm, ev_get, b_ok, t_ok, ab_ok, op_0, op_1, call_1, see, seeO, setS, setTg, setAll, startR, List.getElem?_cons_zero, List.getElem?_cons_succ, List.getElem?_nil, List.set_cons_zero, List.set_cons_succ, List.set_nil, List.length_cons, List.length_nil, List.map_cons, List.map_nil, List.cons_append, List.nil_append, List.replicate, Option.map_some, List.tail_cons, prim, callR, giveOf, putBack, kd_0, kd_1, kd_2, kd_3, kd_4, kd_5, kd_6, kd_7, kd_8, kd_9, kd_10, kd_11, kd_12, kd_13, kd_14, kd_15, kd_16, kd_17, kd_18, kd_19, kd_20, kd_21, kd_22, kd_23, a1, a2, a3, a4, a5, a6, a7, a8, a9, Nat.reduceAdd, ft0, ft1, ft2, ft3, ft4, ft5, ft6, ft7, ft8, ft9, ft10, if_true, k1, endOf, givenOf]
end
theorem c_calls (n : Nat) : Calls (callF pgm (n + 6)) := by
  have e1 : n + 3 + 3 = n + 6 := by omega
  refine ⟨?_, ?_, ?_, ?_, ?_⟩
  · intro m e N1 N2 S1 S2 p q hp hq hm he hN hS
    have h := c_plus (n + 3) hp hq hm he hN hS
    rwa [e1] at h
  · intro m e N1 N2 S1 S2 p q hp hq hN hS
    have h := c_lplus (n + 3) hp hq hN hS
    rwa [e1] at h
  · intro n1 n2 e1' e2' N1 N2 S1 S2 p q hp hq hn he hN hpN hqN h1 h2 h0
    have h := c_times (n + 3) hp hq hn he hN hpN hqN h1 h2 h0
    rwa [e1] at h
  · intro n1 n2 e1' e2' N1 N2 S1 S2 p q hp hq hn he hN h1 h2
    have h := c_ltimes (n + 3) hp hq hn he hN h1 h2
    rwa [e1] at h
  · intro d h
    exact c_alike n 5 d h
theorem law_run {C : Orc} (start : ∀ ns : List Int, ns.length ≤ 63 → ∀ {c : Int}, 0 ≤ c → ∃ d, C 9 [.list (ns.map PyData.int), .int c] = .ret d [] ∧ isSt d) (dp : ∀ {st : D}, isSt st → ∃ (p : List (D × Int)) (st' : D), C 16 [st, .int 5, .int 3] = .ret (enc p) [st'] ∧ isSt st' ∧ Pol p)
    (k20 : ∀ {p q r : List (D × Int)}, Pol p → Pol q → Pol r → C 20 [enc p, enc q, enc r] = .ret (.bool true) []) (k21 : ∀ {p q r : List (D × Int)}, Pol p → Pol q → Pol r → C 21 [enc p, enc q, enc r] = .ret (.bool true) []) (k22 : ∀ {p q r : List (D × Int)}, Pol p → Pol q → Pol r → C 22 [enc p, enc q, enc r] = .ret (.bool true) [])
    (ns : List Int) (hns : ns.length ≤ 63) : endOf pgm 23 (exSs pgm C fi_23.body (startR fi_23 [.list (ns.map PyData.int)])) = .ret (.bool true) [] := by
  obtain ⟨b0, t0, hb0⟩ := start ns hns (c := 0) (by decide)
  obtain ⟨f0, t1, hf0⟩ := start ns hns (c := 1) (by decide)
  generalize PyData.list (ns.map PyData.int) = sc at *
  obtain ⟨p, b1, t2, hb1, hp⟩ := dp hb0
  obtain ⟨q, f1, t3, hf1, hq⟩ := dp hf0
  obtain ⟨r, f2, t4, hf2, hr⟩ := dp hf1
  obtain ⟨I, hI⟩ : ∃ I, I = [PyData.tuple [enc p, enc q, enc r], .tuple [enc q, enc r, enc p], .tuple [enc p, enc p, enc q], .tuple [enc p, enc q, enc []], .tuple [enc oneL, enc p, enc q], .tuple [enc p, enc p, enc p]] := ⟨_, rfl⟩
  have each : ∀ d ∈ I, ∃ a b c : List (D × Int), d = .tuple [enc a, enc b, enc c] ∧ Pol a ∧ Pol b ∧ Pol c := fun d hd => by
    rw [hI] at hd
    simp only [List.mem_cons, List.not_mem_nil, or_false] at hd
    rcases hd with rfl | rfl | rfl | rfl | rfl | rfl
    · exact ⟨_, _, _, rfl, hp, hq, hr⟩
    · exact ⟨_, _, _, rfl, hq, hr, hp⟩
    · exact ⟨_, _, _, rfl, hp, hp, hq⟩
    · exact ⟨_, _, _, rfl, hp, hq, zero_pol⟩
    · exact ⟨_, _, _, rfl, one_pol, hp, hq⟩
    · exact ⟨_, _, _, rfl, hp, hp, hp⟩
  have s0 : exSs pgm C [(.asgO 1 (.call 9 [(.var 0), (.int 0)])), (.asgO 2 (.call 9 [(.var 0), (.int 1)])), (.asg (.nm 3) (.call 16 [(.own 1), (.int 5), (.int 3)])), (.asg (.nm 4) (.call 16 [(.own 2), (.int 5), (.int 3)])), (.asg (.nm 5) (.call 16 [(.own 2), (.int 5), (.int 3)]))] (startR fi_23 [sc]) = .nx [some sc, some b1, some f2, some (enc p), some (enc q), some (enc r), none, none, none] := by
    show exSs pgm C _ [some sc, none, none, none, none, none, none, none, none] = _
    have h1 := hb0.top
    have h2 := hf0.top
    generalize enc p = p' at *
    generalize enc q = q' at *
    generalize enc r = r' at *
    simp only [ex_0, ex_1, ex_asg, ex_asgO, ex_setI, ex_aug, ex_augI, ex_exp, ex_ite, ex_ret, ex_retO, ex_retN, ev_non, ev_bl, ev_int, ev_str, ew_var, ew_mv, ev_tup, ev_lst, ev_op, ev_not, ev_ite, ev_call, ev_dic, ev_and0, ev_and1, ev_or0, ev_or1, ev_es0, ev_es1, ev_os0, ev_osO, ev_osB, os_non, os_bl, os_int, os_str, os_var, os_mv, os_tup, os_lst, os_op, os_ite, os_call, os_not, os_mm, os_get, os_lc, os_dc, os_sortk, os_callk, ev_if0, ev_if1, ev_mm, ev_get, b_ok, t_ok, ab_ok, op_0, op_1, call_1, see, seeO, setS, setTg, setAll, startR, List.getElem?_cons_zero, List.getElem?_cons_succ, List.getElem?_nil, List.set_cons_zero, List.set_cons_succ, List.set_nil, List.length_cons, List.length_nil, List.map_cons, List.map_nil, List.cons_append, List.nil_append, List.replicate, Option.map_some, List.tail_cons, prim, callR, giveOf, putBack, kd_0, kd_1, kd_2, kd_3, kd_4, kd_5, kd_6, kd_7, kd_8, kd_9, kd_10, kd_11, kd_12, kd_13, kd_14, kd_15, kd_16, kd_17, kd_18, kd_19, kd_20, kd_21, kd_22, kd_23, t0, t1, h1, h2, if_true, t2, t3, t4]
  obtain ⟨ρ', hf, A6, A7, A8, rfl⟩ : ∃ ρ', forL (fun r => exSs pgm C [(.ite (.or [(.not (.call 20 [(.var 6), (.var 7), (.var 8)])), (.not (.call 21 [(.var 6), (.var 7), (.var 8)]))]) [(.ret (.bl false))] []), (.ite (.not (.call 22 [(.var 6), (.var 7), (.var 8)])) [(.ret (.bl false))] [])] r) (.tp [6, 7, 8]) I [some sc, some b1, some f2, some (enc p), some (enc q), some (enc r), none, none, none] = .nx ρ' ∧
      ∃ A6 A7 A8 : Option D, ρ' = [some sc, some b1, some f2, some (enc p), some (enc q), some (enc r), A6, A7, A8] := by
    refine forL_nx (fun pre ρ => ∃ A6 A7 A8 : Option D, ρ = [some sc, some b1, some f2, some (enc p), some (enc q), some (enc r), A6, A7, A8]) _ _ ⟨none, none, none, rfl⟩ ?_
    rintro pre d post ρ hd ⟨A6, A7, A8, rfl⟩
    obtain ⟨a, b, c, rfl, ha, hb, hc⟩ := each d (by rw [hd]; simp)
    have c1 := k20 ha hb hc
    have c2 := k21 ha hb hc
    have c3 := k22 ha hb hc
    refine ⟨[some sc, some b1, some f2, some (enc p), some (enc q), some (enc r), some (enc a), some (enc b), some (enc c)], [some sc, some b1, some f2, some (enc p), some (enc q), some (enc r), some (enc a), some (enc b), some (enc c)], rfl, .inl ?_, _, _, _, rfl⟩
    generalize enc p = p' at *
    generalize enc q = q' at *
    generalize enc r = r' at *
    generalize enc a = a' at *
    generalize enc b = b' at *
    generalize enc c = c' at *
    simp only [ex_0, ex_1, ex_asg, ex_asgO, ex_setI, ex_aug, ex_augI, ex_exp, ex_ite, ex_ret, ex_retO, ex_retN, ev_non, ev_bl, ev_int, ev_str, ew_var, ew_mv, ev_tup, ev_lst, ev_op, ev_not, ev_ite, ev_call, ev_dic, ev_and0, ev_and1, ev_or0, ev_or1, ev_es0, ev_es1, ev_os0, ev_osO, ev_osB, os_non, os_bl, os_int, os_str, os_var, os_mv, os_tup, os_lst, os_op, os_ite, os_call, os_not, os_mm, os_get, os_lc, os_dc, os_sortk, os_callk, ev_if0, ev_if1, ev_mm, ev_get, b_ok, t_ok, ab_ok, op_0, op_1, call_1, see, seeO, setS, setTg, setAll, startR, List.getElem?_cons_zero, List.getElem?_cons_succ, List.getElem?_nil, List.set_cons_zero, List.set_cons_succ, List.set_nil, List.length_cons, List.length_nil, List.map_cons, List.map_nil, List.cons_append, List.nil_append, List.replicate, Option.map_some, List.tail_cons, prim, callR, giveOf, putBack, kd_0, kd_1, kd_2, kd_3, kd_4, kd_5, kd_6, kd_7, kd_8, kd_9, kd_10, kd_11, kd_12, kd_13, kd_14, kd_15, kd_16, kd_17, kd_18, kd_19, kd_20, kd_21, kd_22, kd_23, c1, c2, c3, Bool.not_true, if_false, Bool.false_eq_true]
  have sf : exS pgm C (.for_ (.tp [6, 7, 8]) .each [(.lst [(.tup [(.var 3), (.var 4), (.var 5)]), (.tup [(.var 4), (.var 5), (.var 3)]), (.tup [(.var 3), (.var 3), (.var 4)]), (.tup [(.var 3), (.var 4), (.glo 2)]), (.tup [(.glo 3), (.var 3), (.var 4)]), (.tup [(.var 3), (.var 3), (.var 3)])])] [(.ite (.or [(.not (.call 20 [(.var 6), (.var 7), (.var 8)])), (.not (.call 21 [(.var 6), (.var 7), (.var 8)]))]) [(.ret (.bl false))] []), (.ite (.not (.call 22 [(.var 6), (.var 7), (.var 8)])) [(.ret (.bl false))] [])])
      [some sc, some b1, some f2, some (enc p), some (enc q), some (enc r), none, none, none] = .nx [some sc, some b1, some f2, some (enc p), some (enc q), some (enc r), A6, A7, A8] := by
    have g2 : ∀ ρ : Rho, evE pgm C (.glo 2) ρ = .ok (enc []) ρ := fun ρ => ev_glo2
    have g3 : ∀ ρ : Rho, evE pgm C (.glo 3) ρ = .ok (enc oneL) ρ := fun ρ => ev_glo3
    have ho : evOs pgm C [(.lst [(.tup [(.var 3), (.var 4), (.var 5)]), (.tup [(.var 4), (.var 5), (.var 3)]), (.tup [(.var 3), (.var 3), (.var 4)]), (.tup [(.var 3), (.var 4), (.glo 2)]), (.tup [(.glo 3), (.var 3), (.var 4)]), (.tup [(.var 3), (.var 3), (.var 3)])])] [some sc, some b1, some f2, some (enc p), some (enc q), some (enc r), none, none, none] = .ok [.inl (.list I)] [some sc, some b1, some f2, some (enc p), some (enc q), some (enc r), none, none, none] := by
      rw [hI]
      generalize enc p = p' at *
      generalize enc q = q' at *
      generalize enc r = r' at *
      generalize enc [] = z' at *
      generalize enc oneL = o' at *
      simp only [ex_0, ex_1, ex_asg, ex_asgO, ex_setI, ex_aug, ex_augI, ex_exp, ex_ite, ex_ret, ex_retO, ex_retN, ev_non, ev_bl, ev_int, ev_str, ew_var, ew_mv, ev_tup, ev_lst, ev_op, ev_not, ev_ite, ev_call, ev_dic, ev_and0, ev_and1, ev_or0, ev_or1, ev_es0, ev_es1, ev_os0, ev_osO, ev_osB, os_non, os_bl, os_int, os_str, os_var, os_mv, os_tup, os_lst, os_op, os_ite, os_call, os_not, os_mm, os_get, os_lc, os_dc, os_sortk, os_callk, ev_if0, ev_if1, ev_mm, ev_get, b_ok, t_ok, ab_ok, op_0, op_1, call_1, see, seeO, setS, setTg, setAll, startR, List.getElem?_cons_zero, List.getElem?_cons_succ, List.getElem?_nil, List.set_cons_zero, List.set_cons_succ, List.set_nil, List.length_cons, List.length_nil, List.map_cons, List.map_nil, List.cons_append, List.nil_append, List.replicate, Option.map_some, List.tail_cons, prim, callR, giveOf, putBack, kd_0, kd_1, kd_2, kd_3, kd_4, kd_5, kd_6, kd_7, kd_8, kd_9, kd_10, kd_11, kd_12, kd_13, kd_14, kd_15, kd_16, kd_17, kd_18, kd_19, kd_20, kd_21, kd_22, kd_23, g2, g3, Nat.reduceAdd, ft0, ft1, ft2, ft3, ft4, ft5, ft6, ft7, ft8, ft9, ft10, if_true]
    rw [ex_for (os := [.inl (.list I)]) (ρ1 := [some sc, some b1, some f2, some (enc p), some (enc q), some (enc r), none, none, none]) (ds := [.list I]) (items := I) ho rfl rfl]
    show (forL _ _ _ [some sc, some b1, some f2, some (enc p), some (enc q), some (enc r), none, none, none]).map id = _
    rw [hf]
    rfl
  rw [show fi_23.body = [(.asgO 1 (.call 9 [(.var 0), (.int 0)])), (.asgO 2 (.call 9 [(.var 0), (.int 1)])), (.asg (.nm 3) (.call 16 [(.own 1), (.int 5), (.int 3)])), (.asg (.nm 4) (.call 16 [(.own 2), (.int 5), (.int 3)])), (.asg (.nm 5) (.call 16 [(.own 2), (.int 5), (.int 3)]))] ++ [(.for_ (.tp [6, 7, 8]) .each [(.lst [(.tup [(.var 3), (.var 4), (.var 5)]), (.tup [(.var 4), (.var 5), (.var 3)]), (.tup [(.var 3), (.var 3), (.var 4)]), (.tup [(.var 3), (.var 4), (.glo 2)]), (.tup [(.glo 3), (.var 3), (.var 4)]), (.tup [(.var 3), (.var 3), (.var 3)])])] [(.ite (.or [(.not (.call 20 [(.var 6), (.var 7), (.var 8)])), (.not (.call 21 [(.var 6), (.var 7), (.var 8)]))]) [(.ret (.bl false))] []), (.ite (.not (.call 22 [(.var 6), (.var 7), (.var 8)])) [(.ret (.bl false))] [])]), (.ret (.bl true))] from rfl, ex_app, s0]
  simp only [ex_1, sf]
  simp only [ex_0, ex_1, ex_asg, ex_asgO, ex_setI, ex_aug, ex_augI, ex_exp, ex_ite, ex_ret, ex_retO, ex_retN, ev_non, ev_bl, ev_int, ev_str, ew_var, ew_mv, ev_tup, ev_lst, ev_op, ev_not, ev_ite, ev_call, ev_dic, ev_and0, ev_and1, ev_or0, ev_or1, ev_es0, ev_es1, ev_os0, ev_osO, ev_osB, os_non, os_bl, os_int, os_str, os_var, os_mv, os_tup, os_lst, os_op, os_ite, os_call, os_not, os_mm, os_get, os_lc, os_dc, os_sortk, os_callk, ev_if0, ev_if1, ev_mm, ev_get, b_ok, t_ok, ab_ok, op_0, op_1, call_1, see, seeO, setS, setTg, setAll, startR, List.getElem?_cons_zero, List.getElem?_cons_succ, List.getElem?_nil, List.set_cons_zero, List.set_cons_succ, List.set_nil, List.length_cons, List.length_nil, List.map_cons, List.map_nil, List.cons_append, List.nil_append, List.replicate, Option.map_some, List.tail_cons, prim, callR, giveOf, putBack, kd_0, kd_1, kd_2, kd_3, kd_4, kd_5, kd_6, kd_7, kd_8, kd_9, kd_10, kd_11, kd_12, kd_13, kd_14, kd_15, kd_16, kd_17, kd_18, kd_19, kd_20, kd_21, kd_22, kd_23, endOf, givenOf]
theorem plain (ns : List Int) (hns : ns.length ≤ 63) (_ : ∀ z ∈ ns, Builtin.Int.intBits z ≤ 1048576) : callF pgm 40 23 [.list (ns.map PyData.int)] = .ret (.bool true) [] := by
  rw [show (40 : Nat) = 39 + 1 from rfl, callF_at (fi := fi_23) rfl rfl]
  have e1 : 38 + 1 = 39 := rfl
  have e2 : 34 + 5 = 39 := rfl
  refine law_run ?_ ?_ ?_ ?_ ?_ ns hns
  · intro ns hl c hc
    have h := c_box 38 ns hl hc
    rwa [e1] at h
  · intro st hs
    have h := c_dpoly 34 hs
    rwa [e2] at h
  · intro p q r hp hq hr
    rw [show (39 : Nat) = 38 + 1 from rfl, callF_at (fi := fi_20) rfl rfl]
    exact summed_body (c_calls 32) hp hq hr
  · intro p q r hp hq hr
    rw [show (39 : Nat) = 38 + 1 from rfl, callF_at (fi := fi_21) rfl rfl]
    exact multiplied_body (c_calls 32) hp hq hr
  · intro p q r hp hq hr
    rw [show (39 : Nat) = 38 + 1 from rfl, callF_at (fi := fi_22) rfl rfl]
    exact parted_body (c_calls 32) hp hq hr
end PV

open PySem PySem.W PyProof.Rows
set_option pp.maxSteps 300
set_option maxHeartbeats 0 in
theorem PySem.Challenge.cw_ledgertrace_k02_whole_semiring_holds : PySem.Challenge.rw_ledgertrace_k02_whole_semiring.Holds := by
  w_on; o_law; k_head; (case hw => w_witness2)
  k_fill
  refine PV.walkG (l := PySem.Challenge.rw_ledgertrace_k02_whole_semiring) (n := 63) (k := 40) (x := "_law_script") rfl (by decide) rfl ⟨rfl, by decide, by decide⟩ (fun w h Y => PySem.W.kIn_of Y) ?F
  case F =>
    intro w mg fa h Y KX G hmg
    refine' PV.law_fin PV.plain KX G hmg ?z1 ?z2 ?z3 ?z4 ?z5 ?z6 ?z7 ?z8 ?z9 ?z10 ?z11 ?z12 ?z13 ?z14 ?z15 ?z16 ?z17 ?z18 ?z19 ?z20 ?a0 ?l0 ?q0 ?k0 ?a1 ?l1 ?q1 ?k1 ?a2 ?l2 ?q2 ?k2 ?a3 ?l3 ?q3 ?k3 ?a4 ?l4 ?q4 ?k4 ?a5 ?l5 ?q5 ?k5 ?a6 ?l6 ?q6 ?k6 ?a7 ?l7 ?q7 ?k7 ?a8 ?l8 ?q8 ?k8 ?a9 ?l9 ?q9 ?k9 ?a10 ?l10 ?q10 ?k10 ?a11 ?l11 ?q11 ?k11 ?a12 ?l12 ?q12 ?k12 ?a13 ?l13 ?q13 ?k13 ?a14 ?l14 ?q14 ?k14 ?a15 ?l15 ?q15 ?k15 ?a16 ?l16 ?q16 ?k16 ?a17 ?l17 ?q17 ?k17 ?a18 ?l18 ?q18 ?k18 ?a19 ?l19 ?q19 ?k19 ?a20 ?l20 ?q20 ?k20 ?a21 ?l21 ?q21 ?k21 ?a22 ?l22 ?q22 ?k22 ?a23 ?l23 ?q23 ?k23 ?ya0 ?ya1 ?ya2 ?ya3
    (case z1 => k_is)
    (case z2 => k_is)
    (case z3 => k_is)
    (case z4 => k_is)
    (case z5 => k_is)
    (case z6 => k_is)
    (case z7 => k_is)
    (case z8 => k_is)
    (case z9 => k_is)
    (case z10 => k_is)
    (case z11 => k_is)
    (case z12 => k_is)
    (case z13 => k_is)
    (case z14 => k_is)
    (case z15 => k_is)
    (case z16 => k_is)
    (case z17 => k_is)
    (case z18 => k_is)
    (case z19 => k_is)
    (case z20 => k_is)
    (case a0 => k_is)
    (case l0 => k_is)
    (case q0 => k_is)
    (case k0 => k_is)
    (case a1 => k_is)
    (case l1 => k_is)
    (case q1 => k_is)
    (case k1 => k_is)
    (case a2 => k_is)
    (case l2 => k_is)
    (case q2 => k_is)
    (case k2 => k_is)
    (case a3 => k_is)
    (case l3 => k_is)
    (case q3 => k_is)
    (case k3 => k_is)
    (case a4 => k_is)
    (case l4 => k_is)
    (case q4 => k_is)
    (case k4 => k_is)
    (case a5 => k_is)
    (case l5 => k_is)
    (case q5 => k_is)
    (case k5 => k_is)
    (case a6 => k_is)
    (case l6 => k_is)
    (case q6 => k_is)
    (case k6 => k_is)
    (case a7 => k_is)
    (case l7 => k_is)
    (case q7 => k_is)
    (case k7 => k_is)
    (case a8 => k_is)
    (case l8 => k_is)
    (case q8 => k_is)
    (case k8 => k_is)
    (case a9 => k_is)
    (case l9 => k_is)
    (case q9 => k_is)
    (case k9 => k_is)
    (case a10 => k_is)
    (case l10 => k_is)
    (case q10 => k_is)
    (case k10 => k_is)
    (case a11 => k_is)
    (case l11 => k_is)
    (case q11 => k_is)
    (case k11 => k_is)
    (case a12 => k_is)
    (case l12 => k_is)
    (case q12 => k_is)
    (case k12 => k_is)
    (case a13 => k_is)
    (case l13 => k_is)
    (case q13 => k_is)
    (case k13 => k_is)
    (case a14 => k_is)
    (case l14 => k_is)
    (case q14 => k_is)
    (case k14 => k_is)
    (case a15 => k_is)
    (case l15 => k_is)
    (case q15 => k_is)
    (case k15 => k_is)
    (case a16 => k_is)
    (case l16 => k_is)
    (case q16 => k_is)
    (case k16 => k_is)
    (case a17 => k_is)
    (case l17 => k_is)
    (case q17 => k_is)
    (case k17 => k_is)
    (case a18 => k_is)
    (case l18 => k_is)
    (case q18 => k_is)
    (case k18 => k_is)
    (case a19 => k_is)
    (case l19 => k_is)
    (case q19 => k_is)
    (case k19 => k_is)
    (case a20 => k_is)
    (case l20 => k_is)
    (case q20 => k_is)
    (case k20 => k_is)
    (case a21 => k_is)
    (case l21 => k_is)
    (case q21 => k_is)
    (case k21 => k_is)
    (case a22 => k_is)
    (case l22 => k_is)
    (case q22 => k_is)
    (case k22 => k_is)
    (case a23 => k_is)
    (case l23 => k_is)
    (case q23 => k_is)
    (case k23 => k_is)
    (case ya0 => exact (by kernel_rfl))
    (case ya1 => exact (by kernel_rfl))
    (case ya2 => exact (by kernel_rfl))
    (case ya3 => exact (by kernel_rfl))
