import PyProof.Rows.All
import Wide.All
import OpenK.AllK
import Wide.FinOn
import KE.KStateDown
import HandS.Base
import HandS.Call
import HandS.List
import HandS.Comp
import HandS.Ends
import HandS.Dict
import HandS.Iter
import HandS.Text
import HandS.More
import HandS.Words
import HandS.WordsList
import HandS.WordsDict
import HandS.Exc
import HandS.ExcOwn
import HandS.WordsExc
import HandS.Defaults
import HandS.TupAny
import HandS.Conv
import HandS.HeadHook1
import HandS.HeadHook2
import HandS.HeadHook3
import HandS.HeadHook4
import HandS.Small
import HandS.IsInst
import HandS.Deep
import HandS.Style
import HandS.Strs
import HandS.SetFor
import HandS.SortInts
import HandS.SortRule
import HandS.DictEq
import HandS.Head0
import HandS.Head1
import HandS.Head2
import HandS.HeadEnd
import HandS.TupSets
import PySem.Challenge.RW_partsrun_k02_whole_map_or_fault
section
set_option Elab.async false
set_option linter.all false
set_option maxRecDepth 100000
set_option maxHeartbeats 4000000
set_option autoImplicit false
/-! The small machine: values, store, results; how they lie in the abstract heap. -/
namespace VM
open PySem PySem.Spec PyProof.Rows L2

/-- a value: frozen lists and dicts are values, things that change are handles -/
inductive A where
  | non | bl (b : Bool) | int (i : Int) | str (s : Str)
  | tup (xs : List A) | lst (xs : List A) | dic (kvs : List (Key × A)) | ref (n : Nat) | fn (x : Str)
inductive O where
  | lst (xs : List A) | dic (kvs : List (Key × A)) | ins (c : Str) (fs : List (Str × A)) | dead
abbrev Store := List O
structure Exn where
  cls : Str
  fs : List (Str × A) := []
inductive R (α : Type) where
  | ok (a : α) (S : Store) | exc (x : Exn) (S : Store) | bad
abbrev M (α : Type) := Store → R α
abbrev Slots := List (Option A)
def bnd {α β : Type} (m : M α) (f : α → M β) : M β := fun S => match m S with
  | .ok a S' => f a S'
  | .exc x S' => .exc x S'
  | .bad => .bad
def pur {α : Type} (a : α) : M α := fun S => .ok a S
def bad {α : Type} : M α := fun _ => .bad
abbrev C := Slots → M A
abbrev CB := Slots → M Bool
abbrev CL := Slots → M (List A)
abbrev SV := L2.St
inductive RS where
  | nx (e : Slots) (S : Store) | rt (a : A) (S : Store) | bk (e : Slots) (S : Store) | ct (e : Slots) (S : Store)
  | exc (x : Exn) (e : Slots) (S : Store) | bad
abbrev CS := Slots → Store → RS

/-! ### how values lie -/
def KL (K : PySem.W.Frag) (p : Addr) (vs : List V) : Prop := ∃ (o : Obj) (its : Array Value) (n : Nat), K.lookup p = some o ∧ o.cls = .type "list" ∧ o.dict = none ∧ o.data = .seq its n ∧ its.size ≤ sizeLine ∧ Vals vs its.toList
def KT (K : PySem.W.Frag) (p : Addr) (vs : List V) : Prop := ∃ (o : Obj) (its : Array Value) (n : Nat), K.lookup p = some o ∧ o.cls = .type "tuple" ∧ o.data = .seq its n ∧ its.size ≤ sizeLine ∧ Vals vs its.toList
mutual
inductive RA (K : PySem.W.Frag) (F : Hp) (m : List Addr) : A → V → Prop
  | non : RA K F m .non .non
  | bl (b : Bool) : RA K F m (.bl b) (.bl b)
  | int (i : Int) : RA K F m (.int i) (.int i)
  | str (s : Str) : RA K F m (.str s) (.str s)
  | tup {xs : List A} {p : Addr} {vs : List V} (h : F p = some (.tup vs) ∨ KT K p vs) (r : RAs K F m xs vs) : RA K F m (.tup xs) (.ref p)
  | lst {xs : List A} {p : Addr} {vs : List V} (h : F p = some (.lst vs) ∨ KL K p vs) (r : RAs K F m xs vs) : RA K F m (.lst xs) (.ref p)
  | dic {xs : List (Key × A)} {p : Addr} {vs : List (Key × V)} (h : F p = some (.dK vs)) (r : RAk K F m xs vs) : RA K F m (.dic xs) (.ref p)
  | ref {n : Nat} {p : Addr} (h : m[n]? = some p) : RA K F m (.ref n) (.ref p)
  | fn (x : Str) : RA K F m (.fn x) (.ref (He.ga K x))
inductive RAs (K : PySem.W.Frag) (F : Hp) (m : List Addr) : List A → List V → Prop
  | nil : RAs K F m [] []
  | cons {a : A} {v : V} {xs : List A} {vs : List V} (h : RA K F m a v) (r : RAs K F m xs vs) : RAs K F m (a :: xs) (v :: vs)
inductive RAk (K : PySem.W.Frag) (F : Hp) (m : List Addr) : List (Key × A) → List (Key × V) → Prop
  | nil : RAk K F m [] []
  | cons {k : Key} {a : A} {v : V} {xs : List (Key × A)} {vs : List (Key × V)} (h : RA K F m a v) (r : RAk K F m xs vs) : RAk K F m ((k, a) :: xs) ((k, v) :: vs)
end
inductive RAf (K : PySem.W.Frag) (F : Hp) (m : List Addr) : List (Str × A) → List (Str × V) → Prop
  | nil : RAf K F m [] []
  | cons {k : Str} {a : A} {v : V} {xs : List (Str × A)} {vs : List (Str × V)} (h : RA K F m a v) (r : RAf K F m xs vs) : RAf K F m ((k, a) :: xs) ((k, v) :: vs)
inductive RE (K : PySem.W.Frag) (F : Hp) (m : List Addr) : Slots → SV → Prop
  | nil : RE K F m [] []
  | no {ov : Option V} {xs : Slots} {vs : SV} (r : RE K F m xs vs) : RE K F m (none :: xs) (ov :: vs)
  | yes {a : A} {v : V} {xs : Slots} {vs : SV} (h : RA K F m a v) (r : RE K F m xs vs) : RE K F m (some a :: xs) (some v :: vs)

/-- a world: what is frozen, where the handles stand, the abstract heap -/
structure Wd where
  F : Hp
  m : List Addr
  H : Hp
def OR (K : PySem.W.Frag) (w : Wd) (p : Addr) : O → Prop
  | .lst xs => ∃ vs, w.H p = some (.lst vs) ∧ RAs K w.F w.m xs vs
  | .dic xs => ∃ vs, w.H p = some (.dK vs) ∧ RAk K w.F w.m xs vs
  | .ins c fs => ∃ dx vs, w.H p = some (.ins (He.ga K c) dx vs) ∧ RAf K w.F w.m fs vs
  | .dead => w.H p ≠ none
structure Rel (K : PySem.W.Frag) (w : Wd) (S : Store) : Prop where
  fz : ∀ p u, w.F p = some u → Rd w.H p u
  nd : w.m.Nodup
  ln : w.m.length = S.length
  ob : ∀ (n : Nat) (o : O), S[n]? = some o → ∃ p, w.m[n]? = some p ∧ w.F p = none ∧ OR K w p o
structure Ext (w w' : Wd) : Prop where
  fr : ∀ p u, w.F p = some u → w'.F p = some u
  mp : ∃ l, w'.m = w.m ++ l
  keep : ∀ p o, w.H p = some o → p ∉ w.m → w'.H p = some o
  fn : ∀ p, w'.F p ≠ none → w.F p ≠ none ∨ w.H p = none
  mn : ∀ p, p ∈ w'.m → p ∈ w.m ∨ w.H p = none
  mono : ∀ p, w.H p ≠ none → w'.H p ≠ none

section
variable {K : PySem.W.Frag} {F F' : Hp} {m m' : List Addr}
mutual
theorem RA.mono (hF : ∀ p u, F p = some u → F' p = some u) (hm : ∃ l, m' = m ++ l) : ∀ {a : A} {v : V}, RA K F m a v → RA K F' m' a v
  | _, _, .non => .non
  | _, _, .bl b => .bl b
  | _, _, .int i => .int i
  | _, _, .str s => .str s
  | _, _, .tup h r => .tup (h.imp (hF _ _) id) (RAs.mono hF hm r)
  | _, _, .lst h r => .lst (h.imp (hF _ _) id) (RAs.mono hF hm r)
  | _, _, .dic h r => .dic (hF _ _ h) (RAk.mono hF hm r)
  | _, _, .ref (n := n) h => .ref (by
      obtain ⟨l, rfl⟩ := hm
      obtain ⟨hl, _⟩ := List.getElem?_eq_some_iff.mp h
      rw [List.getElem?_append_left hl]; exact h)
  | _, _, .fn x => .fn x
theorem RAs.mono (hF : ∀ p u, F p = some u → F' p = some u) (hm : ∃ l, m' = m ++ l) : ∀ {a : List A} {v : List V}, RAs K F m a v → RAs K F' m' a v
  | _, _, .nil => .nil
  | _, _, .cons h r => .cons (RA.mono hF hm h) (RAs.mono hF hm r)
theorem RAk.mono (hF : ∀ p u, F p = some u → F' p = some u) (hm : ∃ l, m' = m ++ l) : ∀ {a : List (Key × A)} {v : List (Key × V)}, RAk K F m a v → RAk K F' m' a v
  | _, _, .nil => .nil
  | _, _, .cons h r => .cons (RA.mono hF hm h) (RAk.mono hF hm r)
end
theorem RAf.mono (hF : ∀ p u, F p = some u → F' p = some u) (hm : ∃ l, m' = m ++ l) {a : List (Str × A)} {v : List (Str × V)} (h : RAf K F m a v) : RAf K F' m' a v := by
  induction h with
  | nil => exact .nil
  | cons h _ ih => exact .cons (h.mono hF hm) ih
theorem RE.mono (hF : ∀ p u, F p = some u → F' p = some u) (hm : ∃ l, m' = m ++ l) {a : Slots} {v : SV} (h : RE K F m a v) : RE K F' m' a v := by
  induction h with
  | nil => exact .nil
  | no _ ih => exact .no ih
  | yes h _ ih => exact .yes (h.mono hF hm) ih
theorem RAs.length {xs : List A} {vs : List V} (h : RAs K F m xs vs) : xs.length = vs.length := by
  induction xs generalizing vs with
  | nil => cases h; rfl
  | cons a r ih => cases h with | cons _ t => simp [ih t]
theorem RAs.get {xs : List A} {vs : List V} (h : RAs K F m xs vs) {i : Nat} {a : A} (e : xs[i]? = some a) : ∃ v, vs[i]? = some v ∧ RA K F m a v := by
  induction xs generalizing vs i with
  | nil => simp at e
  | cons b r ih =>
    cases h with
    | cons h1 t =>
      cases i with
      | zero => simp at e; subst e; exact ⟨_, rfl, h1⟩
      | succ i => simpa using ih t (i := i) (by simpa using e)
theorem RAs.get' {xs : List A} {vs : List V} (h : RAs K F m xs vs) {i : Nat} {v : V} (e : vs[i]? = some v) : ∃ a, xs[i]? = some a ∧ RA K F m a v := by
  induction xs generalizing vs i with
  | nil => cases h; simp at e
  | cons b r ih =>
    cases h with
    | cons h1 t =>
      cases i with
      | zero => simp at e; subst e; exact ⟨_, rfl, h1⟩
      | succ i => simpa using ih t (i := i) (by simpa using e)
theorem RAs.app {xs ys : List A} {vs us : List V} (h : RAs K F m xs vs) (h' : RAs K F m ys us) : RAs K F m (xs ++ ys) (vs ++ us) := by
  induction xs generalizing vs with
  | nil => cases h; exact h'
  | cons a r ih => cases h with | cons h1 t => exact .cons h1 (ih t)
theorem RAs.take {xs : List A} {vs : List V} (h : RAs K F m xs vs) (n : Nat) : RAs K F m (xs.take n) (vs.take n) := by
  induction xs generalizing vs n with
  | nil => cases h; simp; exact .nil
  | cons a r ih =>
    cases h with
    | cons h1 t =>
      cases n with
      | zero => exact .nil
      | succ n => exact .cons h1 (ih t n)
theorem RAs.drop {xs : List A} {vs : List V} (h : RAs K F m xs vs) (n : Nat) : RAs K F m (xs.drop n) (vs.drop n) := by
  induction xs generalizing vs n with
  | nil => cases h; simp; exact .nil
  | cons a r ih =>
    cases h with
    | cons h1 t =>
      cases n with
      | zero => exact .cons h1 t
      | succ n => exact ih t n
theorem RAs.set {xs : List A} {vs : List V} (h : RAs K F m xs vs) {a : A} {v : V} (ha : RA K F m a v) (n : Nat) : RAs K F m (xs.set n a) (vs.set n v) := by
  induction xs generalizing vs n with
  | nil => cases h; exact .nil
  | cons b r ih =>
    cases h with
    | cons h1 t =>
      cases n with
      | zero => exact .cons ha t
      | succ n => exact .cons h1 (ih t n)
theorem RE.get {e : Slots} {σ : SV} (h : RE K F m e σ) {i : Nat} {a : A} (q : e[i]? = some (some a)) : ∃ v, σ[i]? = some (some v) ∧ RA K F m a v := by
  induction h generalizing i with
  | nil => simp at q
  | no _ ih => cases i with
    | zero => simp at q
    | succ i => simpa using ih (i := i) (by simpa using q)
  | yes h1 _ ih => cases i with
    | zero => simp at q; subst q; exact ⟨_, rfl, h1⟩
    | succ i => simpa using ih (i := i) (by simpa using q)
theorem RE.set {e : Slots} {σ : SV} (h : RE K F m e σ) {a : A} {v : V} (ha : RA K F m a v) (i : Nat) : RE K F m (e.set i (some a)) (σ.set i (some v)) := by
  induction h generalizing i with
  | nil => exact .nil
  | no t ih => cases i with
    | zero => exact .yes ha t
    | succ i => exact .no (ih i)
  | yes h1 t ih => cases i with
    | zero => exact .yes ha t
    | succ i => exact .yes h1 (ih i)
/-- a slot forgotten -/
theorem RE.unset {e : Slots} {σ : SV} (h : RE K F m e σ) (i : Nat) : RE K F m (e.set i none) σ := by
  induction h generalizing i with
  | nil => exact .nil
  | no t ih => cases i with
    | zero => exact .no t
    | succ i => exact .no (ih i)
  | yes h1 t ih => cases i with
    | zero => exact .no t
    | succ i => exact .yes h1 (ih i)
theorem RE.unset2 {e : Slots} {σ : SV} (h : RE K F m e σ) (i : Nat) : RE K F m (e.set i none) (σ.set i none) := by
  induction h generalizing i with
  | nil => exact .nil
  | no t ih => cases i with
    | zero => exact .no t
    | succ i => exact .no (ih i)
  | yes h1 t ih => cases i with
    | zero => exact .no t
    | succ i => exact .yes h1 (ih i)
theorem RE.length {e : Slots} {σ : SV} (h : RE K F m e σ) : e.length = σ.length := by
  induction h with
  | nil => rfl
  | no _ ih => simp [ih]
  | yes _ _ ih => simp [ih]
end

section
variable {K : PySem.W.Frag} {w w1 w2 : Wd} {S : Store}
theorem Ext.refl (w : Wd) : Ext w w := ⟨fun _ _ h => h, ⟨[], by simp⟩, fun _ _ h _ => h, fun _ h => .inl h, fun _ h => .inl h, fun _ h => h⟩
theorem Ext.trans (a : Ext w w1) (b : Ext w1 w2) : Ext w w2 := by
  refine ⟨fun p u h => b.fr p u (a.fr p u h), ?_, fun p o h hm => ?_, fun p h => ?_, fun p h => ?_, fun p h => b.mono p (a.mono p h)⟩
  · obtain ⟨l1, e1⟩ := a.mp
    obtain ⟨l2, e2⟩ := b.mp
    exact ⟨l1 ++ l2, by rw [e2, e1, List.append_assoc]⟩
  · refine b.keep p o (a.keep p o h hm) fun z => ?_
    rcases a.mn p z with z | z
    · exact hm z
    · rw [h] at z; cases z
  · rcases b.fn p h with h | h
    · exact a.fn p h
    · refine .inr ?_
      cases q : w.H p with
      | none => rfl
      | some o => exact absurd h (a.mono p (by rw [q]; simp))
  · rcases b.mn p h with h | h
    · exact a.mn p h
    · refine .inr ?_
      cases q : w.H p with
      | none => rfl
      | some o => exact absurd h (a.mono p (by rw [q]; simp))
theorem RA.ext {a : A} {v : V} (e : Ext w w1) (h : RA K w.F w.m a v) : RA K w1.F w1.m a v := h.mono e.fr e.mp
theorem RAs.ext {a : List A} {v : List V} (e : Ext w w1) (h : RAs K w.F w.m a v) : RAs K w1.F w1.m a v := h.mono e.fr e.mp
theorem RE.ext {a : Slots} {v : SV} (e : Ext w w1) (h : RE K w.F w.m a v) : RE K w1.F w1.m a v := h.mono e.fr e.mp
/-- a list | tuple of the relation is to be read -/
theorem Rel.sqL (r : Rel K w S) {p : Addr} {vs : List V} (h : w.F p = some (.lst vs) ∨ KL K p vs) : SqL K w.H p vs := h.elim (fun h => .inl (r.fz _ _ h)) .inr
theorem Rel.sqT (r : Rel K w S) {p : Addr} {vs : List V} (h : w.F p = some (.tup vs) ∨ KT K p vs) : SqT K w.H p vs := h.elim (fun h => .inl (r.fz _ _ h)) .inr
theorem Rel.out (r : Rel K w S) {p : Addr} (h : p ∈ w.m) : w.F p = none ∧ w.H p ≠ none := by
  obtain ⟨n, hn⟩ := List.mem_iff_getElem?.mp h
  have hl : n < S.length := by rw [← r.ln]; exact (List.getElem?_eq_some_iff.mp hn).1
  obtain ⟨q, hq, hf, ho⟩ := r.ob n S[n] (List.getElem?_eq_getElem hl)
  rw [hn] at hq; cases hq
  refine ⟨hf, ?_⟩
  cases e : S[n] with
  | lst xs => rw [e] at ho; obtain ⟨vs, h1, _⟩ := ho; rw [h1]; simp
  | dic xs => rw [e] at ho; obtain ⟨vs, h1, _⟩ := ho; rw [h1]; simp
  | ins c fs => rw [e] at ho; obtain ⟨dx, vs, h1, _⟩ := ho; rw [h1]; simp
  | dead => rw [e] at ho; exact ho

/-! ### moves of the world -/
theorem OR.move {o : O} {p : Addr} (e : Ext w w1) (hp : w1.H p = w.H p) (h : OR K w p o) : OR K w1 p o := by
  cases o with
  | lst xs => obtain ⟨vs, h1, h2⟩ := h; exact ⟨vs, hp.trans h1, h2.ext e⟩
  | dic xs => obtain ⟨vs, h1, h2⟩ := h; exact ⟨vs, hp.trans h1, h2.mono e.fr e.mp⟩
  | ins c fs => obtain ⟨dx, vs, h1, h2⟩ := h; exact ⟨dx, vs, hp.trans h1, h2.mono e.fr e.mp⟩
  | dead => show w1.H p ≠ none; rw [hp]; exact h
/-- a new frozen object -/
def Wd.frz (w : Wd) (p : Addr) (u : HO) : Wd := ⟨upd w.F p u, w.m, upd w.H p u⟩
theorem Wd.frz_ext {p : Addr} {u : HO} (r : Rel K w S) (hp : w.H p = none) : Ext w (w.frz p u) := by
  have hF : w.F p = none := by
    cases q : w.F p with
    | none => rfl
    | some u => rcases r.fz _ _ q with z | ⟨o, z⟩ <;> (rw [hp] at z; cases z)
  refine ⟨fun q o h => ?_, ⟨[], by simp [Wd.frz]⟩, fun q o h _ => ?_, fun q h => ?_, fun _ h => .inl h, fun q h => ?_⟩
  · show upd w.F p u q = _
    rw [upd_ne (ne_of_none h hF)]; exact h
  · show upd w.H p u q = _
    rw [upd_ne (ne_of_none h hp)]; exact h
  · by_cases e : q = p
    · subst e; exact .inr hp
    · exact .inl (by rwa [show (w.frz p u).F q = w.F q from upd_ne e] at h)
  · show upd w.H p u q ≠ none
    by_cases e : q = p
    · subst e; rw [upd_same]; simp
    · rw [upd_ne e]; exact h
theorem Wd.frz_rel {p : Addr} {u : HO} (r : Rel K w S) (hp : w.H p = none) : Rel K (w.frz p u) S := by
  have ex := Wd.frz_ext (u := u) r hp
  refine ⟨fun q v h => ?_, r.nd, r.ln, fun n o h => ?_⟩
  · show Rd (upd w.H p u) q v
    have h' : upd w.F p u q = some v := h
    by_cases e : q = p
    · subst e; rw [upd_same] at h'; cases h'; exact .inl upd_same
    · rw [upd_ne e] at h'
      rcases r.fz _ _ h' with z | ⟨o, z⟩
      · exact .inl (by rw [upd_ne e]; exact z)
      · exact .inr ⟨o, by rw [upd_ne e]; exact z⟩
  · obtain ⟨q, h1, h2, h3⟩ := r.ob n o h
    have hq : q ≠ p := fun z => (r.out (List.mem_of_getElem? h1)).2 (by rw [z]; exact hp)
    exact ⟨q, h1, (by show upd w.F p u q = none; rw [upd_ne hq]; exact h2), h3.move ex (upd_ne hq)⟩
/-- a new thing with a handle -/
def Wd.new (w : Wd) (p : Addr) (u : HO) : Wd := ⟨w.F, w.m ++ [p], upd w.H p u⟩
theorem Wd.new_ext {p : Addr} {u : HO} (r : Rel K w S) (hp : w.H p = none) : Ext w (w.new p u) := by
  refine ⟨fun q o h => h, ⟨[p], rfl⟩, fun q o h _ => ?_, fun q h => .inl h, fun q h => ?_, fun q h => ?_⟩
  · show upd w.H p u q = _
    rw [upd_ne (ne_of_none h hp)]; exact h
  · rcases List.mem_append.mp h with h | h
    · exact .inl h
    · exact .inr (by rw [List.mem_singleton.mp h]; exact hp)
  · show upd w.H p u q ≠ none
    by_cases e : q = p
    · subst e; rw [upd_same]; simp
    · rw [upd_ne e]; exact h
theorem Wd.new_rel {p : Addr} {u : HO} {o : O} (r : Rel K w S) (hp : w.H p = none) (ho : OR K (w.new p u) p o) : Rel K (w.new p u) (S ++ [o]) := by
  have ex := Wd.new_ext (u := u) r hp
  have hF : w.F p = none := by
    cases q : w.F p with
    | none => rfl
    | some u => rcases r.fz _ _ q with z | ⟨o, z⟩ <;> (rw [hp] at z; cases z)
  have hm : p ∉ w.m := fun z => (r.out z).2 hp
  refine ⟨fun q v h => ?_, ?_, ?_, fun n o' h => ?_⟩
  · have hq : q ≠ p := fun z => by subst z; rw [show (w.new q u).F q = w.F q from rfl, hF] at h; cases h
    rcases r.fz _ _ h with z | ⟨o, z⟩
    · exact .inl (by show upd w.H p u q = _; rw [upd_ne hq]; exact z)
    · exact .inr ⟨o, by show upd w.H p u q = _; rw [upd_ne hq]; exact z⟩
  · show (w.m ++ [p]).Nodup
    rw [List.nodup_append]
    exact ⟨r.nd, by simp, fun a ha b hb => by rw [List.mem_singleton.mp hb]; exact fun z => hm (z ▸ ha)⟩
  · show (w.m ++ [p]).length = _
    simp [r.ln]
  · by_cases hn : n < S.length
    · rw [List.getElem?_append_left hn] at h
      obtain ⟨q, h1, h2, h3⟩ := r.ob n o' h
      have hq : q ≠ p := fun z => hm (z ▸ List.mem_of_getElem? h1)
      refine ⟨q, ?_, h2, h3.move ex (upd_ne hq)⟩
      show (w.m ++ [p])[n]? = _
      rw [List.getElem?_append_left (by rw [r.ln]; exact hn)]; exact h1
    · rw [List.getElem?_append_right (by omega)] at h
      have e : n - S.length = 0 := by
        have := (List.getElem?_eq_some_iff.mp h).1
        simp at this; omega
      rw [e] at h
      have h' : o = o' := by simpa using h
      subst h'
      refine ⟨p, ?_, hF, ho⟩
      show (w.m ++ [p])[n]? = _
      rw [List.getElem?_append_right (by rw [r.ln]; omega), r.ln, e]; rfl
/-- a thing changed -/
def Wd.put (w : Wd) (p : Addr) (u : HO) : Wd := ⟨w.F, w.m, upd w.H p u⟩
theorem Wd.put_ext {p : Addr} {u : HO} (r : Rel K w S) (hp : p ∈ w.m) : Ext w (w.put p u) := by
  refine ⟨fun q o h => h, ⟨[], by simp [Wd.put]⟩, fun q o h hq => ?_, fun q h => .inl h, fun q h => .inl h, fun q h => ?_⟩
  · show upd w.H p u q = _
    rw [upd_ne (fun z : q = p => hq (by rw [z]; exact hp))]; exact h
  · show upd w.H p u q ≠ none
    by_cases e : q = p
    · subst e; rw [upd_same]; simp
    · rw [upd_ne e]; exact h
theorem Wd.put_rel {p : Addr} {u : HO} {o : O} {n : Nat} (r : Rel K w S) (hn : w.m[n]? = some p) (ho : OR K (w.put p u) p o) : Rel K (w.put p u) (S.set n o) := by
  have hp : p ∈ w.m := List.mem_of_getElem? hn
  have ex := Wd.put_ext (u := u) r hp
  have hF := (r.out hp).1
  refine ⟨fun q v h => ?_, r.nd, by simpa [Wd.put] using r.ln, fun k o' h => ?_⟩
  · replace h : w.F q = some v := h
    have hq : q ≠ p := fun z => by rw [z, hF] at h; cases h
    rcases r.fz _ _ h with z | ⟨o, z⟩
    · exact .inl (by show upd w.H p u q = _; rw [upd_ne hq]; exact z)
    · exact .inr ⟨o, by show upd w.H p u q = _; rw [upd_ne hq]; exact z⟩
  · by_cases e : k = n
    · subst e
      have hl : k < S.length := by rw [← r.ln]; exact (List.getElem?_eq_some_iff.mp hn).1
      rw [List.getElem?_set_self hl] at h
      cases h
      exact ⟨p, hn, hF, ho⟩
    · rw [List.getElem?_set_ne (Ne.symm e)] at h
      obtain ⟨q, h1, h2, h3⟩ := r.ob k o' h
      have hq : q ≠ p := fun z => e (nodup_ix' r.nd h1 (z ▸ hn))
      exact ⟨q, h1, h2, h3.move ex (upd_ne hq)⟩
where
  nodup_ix' {N : List Addr} (hN : N.Nodup) {i j : Nat} {x : Addr} (a : N[i]? = some x) (b : N[j]? = some x) : i = j := by
    obtain ⟨h1, e1⟩ := List.getElem?_eq_some_iff.mp a
    obtain ⟨h2, e2⟩ := List.getElem?_eq_some_iff.mp b
    exact (List.getElem_inj hN).mp (e1.trans e2.symm)
end
end VM
end
section
set_option Elab.async false
set_option linter.all false
set_option maxRecDepth 100000
set_option maxHeartbeats 4000000
set_option autoImplicit false
/-! Readings by results, and the rules of the constructs. -/
namespace VM
open PySem PySem.Spec PyProof.Rows L2

/-- how an exception lies -/
def RX (K : PySem.W.Frag) (w : Wd) (x : Exn) (c : Value) (d : Option Addr) : Prop := c = .ref (He.ga K x.cls) ∧ match d with
  | none => x.fs = []
  | some d => ∃ fs, w.H d = some (.xd fs) ∧ RAf K w.F w.m x.fs fs
def rA (K : PySem.W.Frag) (w : Wd) (a : A) (v : V) : Prop := RA K w.F w.m a v
def rB (w : Wd) (a : Bool) (b : Bool) : Prop := a = b
def rL (K : PySem.W.Frag) (w : Wd) (a : List A) (v : List V) : Prop := RAs K w.F w.m a v
/-- what is wanted of a result -/
def Po (K : PySem.W.Frag) (W : WX) {α β : Type} (rel : Wd → α → β → Prop) (w : Wd) (σ : SV) (out : R α) (Q : β → Hp → Prop) : Prop := match out with
  | .ok a S' => ∀ w' v, Ext w w' → Rel K w' S' → rel w' a v → Q v w'.H
  | .exc x S' => ∀ w' c d, Ext w w' → Rel K w' S' → RX K w' x c d → W c d σ w'.H
  | .bad => False
def rd (K : PySem.W.Frag) (W : WX) {α β : Type} (rel : Wd → α → β → Prop) (c : Slots → M α) : SV → Hp → (β → Hp → Prop) → Prop := fun σ H Q =>
  ∃ w e S, w.H = H ∧ Rel K w S ∧ RE K w.F w.m e σ ∧ Po K W rel w σ (c e S) Q
abbrev tC (K : PySem.W.Frag) (W : WX) (c : C) : TE := rd K W (rA K) c
abbrev tB (K : PySem.W.Frag) (W : WX) (c : CB) : TT := rd K W rB c
abbrev tL (K : PySem.W.Frag) (W : WX) (c : CL) : TA := rd K W (rL K) c
/-- a statement's -/
structure Dn where
  nx : SV → Hp → Prop
def PoS (K : PySem.W.Frag) (W : WX) (w : Wd) (out : RS) (D : Ends) : Prop := match out with
  | .nx e S' => ∀ w' σ', Ext w w' → Rel K w' S' → RE K w'.F w'.m e σ' → D.nx σ' w'.H
  | .rt a S' => ∀ w' v, Ext w w' → Rel K w' S' → RA K w'.F w'.m a v → D.rt v w'.H
  | .bk e S' => ∀ w' σ', Ext w w' → Rel K w' S' → RE K w'.F w'.m e σ' → D.bk σ' w'.H
  | .ct e S' => ∀ w' σ', Ext w w' → Rel K w' S' → RE K w'.F w'.m e σ' → D.ct σ' w'.H
  | .exc x e S' => ∀ w' σ' c d, Ext w w' → Rel K w' S' → RE K w'.F w'.m e σ' → RX K w' x c d → W c d σ' w'.H
  | .bad => False
def tS (K : PySem.W.Frag) (W : WX) (c : CS) : TS := fun D σ H => ∃ w e S, w.H = H ∧ Rel K w S ∧ RE K w.F w.m e σ ∧ PoS K W w (c e S) D

section
variable {K : PySem.W.Frag} {W : WX} {α β γ δ : Type} {rel : Wd → α → β → Prop} {rel' : Wd → γ → δ → Prop} {w w1 : Wd} {σ : SV} {S : Store}
theorem Po.ext {out : R α} {Q : β → Hp → Prop} (e : Ext w w1) (h : Po K W rel w σ out Q) : Po K W rel w1 σ out Q := by
  cases out with
  | ok a S' => exact fun w' v e' r q => h w' v (e.trans e') r q
  | exc x S' => exact fun w' c d e' r q => h w' c d (e.trans e') r q
  | bad => exact h
theorem PoS.ext {out : RS} {D : Ends} (e : Ext w w1) (h : PoS K W w out D) : PoS K W w1 out D := by
  cases out with
  | nx _ _ => exact fun w' v e' => h w' v (e.trans e')
  | rt _ _ => exact fun w' v e' => h w' v (e.trans e')
  | bk _ _ => exact fun w' v e' => h w' v (e.trans e')
  | ct _ _ => exact fun w' v e' => h w' v (e.trans e')
  | exc _ _ _ => exact fun w' v c d e' => h w' v c d (e.trans e')
  | bad => exact h
theorem Po.bnd {m : M α} {f : α → M γ} {Q : δ → Hp → Prop} {Q' : β → Hp → Prop} (h : Po K W rel' w σ (bnd m f S) Q)
    (k : ∀ a S' w' v, Ext w w' → Rel K w' S' → rel w' a v → Po K W rel' w' σ (f a S') Q → Q' v w'.H) : Po K W rel w σ (m S) Q' := by
  unfold VM.bnd at h
  cases e : m S with
  | ok a S' => rw [e] at h; exact fun w' v e' r q => k a S' w' v e' r q (h.ext e')
  | exc x S' => rw [e] at h; exact h
  | bad => rw [e] at h; exact h
theorem Po.imp {out : R α} {Q Q' : β → Hp → Prop} (h : Po K W rel w σ out Q) (k : ∀ w' v, Ext w w' → Q v w'.H → Q' v w'.H) : Po K W rel w σ out Q' := by
  cases out with
  | ok a S' => exact fun w' v e' r q => k w' v e' (h w' v e' r q)
  | exc x S' => exact h
  | bad => exact h
theorem Po.now {a : A} {v : V} {Q : VK} (h : Po K W (rA K) w σ (.ok a S) Q) (r : Rel K w S) (q : RA K w.F w.m a v) : Q v w.H := h w v (Ext.refl w) r q
theorem Po.nowB {a : Bool} {Q : Bool → Hp → Prop} (h : Po K W rB w σ (.ok a S) Q) (r : Rel K w S) : Q a w.H := h w a (Ext.refl w) r rfl
end

/-! ### weaker readings -/
section
variable {X : Cx} {e : Expr}
theorem PE.weak {t t' : TE} (h : PE X e t) (k : ∀ σ H Q, t' σ H Q → t σ H Q) : PE X e t' := ⟨fun pins s σ H Q I q => h.run pins s σ H Q I (k σ H Q q)⟩
theorem PT.weak {t t' : TT} (h : PT X e t) (k : ∀ σ H Q, t' σ H Q → t σ H Q) : PT X e t' := ⟨fun pins s σ H Q I q => h.run pins s σ H Q I (k σ H Q q)⟩
theorem PW.weak {t t' : TT} (h : PW X e t) (k : ∀ σ H Q, t' σ H Q → t σ H Q) : PW X e t' := ⟨fun whole pins s σ H Q I q => h.run whole pins s σ H Q I (k σ H Q q)⟩
theorem PA.weak {es : List Expr} {t t' : TA} (h : PA X es t) (k : ∀ σ H Q, t' σ H Q → t σ H Q) : PA X es t' := ⟨fun pos pins s σ H Q I q => h.run pos pins s σ H Q I (k σ H Q q)⟩
theorem PS.weak {st : Stmt} {t t' : TS} (h : PS X st t) (k : ∀ D σ H, t' D σ H → t D σ H) : PS X st t' := ⟨fun pins s σ H D I q => h.run pins s σ H D I (k D σ H q)⟩
theorem PSs.weak {st : List Stmt} {t t' : TS} (h : PSs X st t) (k : ∀ D σ H, t' D σ H → t D σ H) : PSs X st t' := ⟨fun pins s σ H D I q => h.run pins s σ H D I (k D σ H q)⟩
end

/-! ### expressions -/
def cVar (i : Nat) : C := fun e S => match e[i]? with
  | some (some a) => .ok a S
  | _ => .bad
def cC (a : A) : C := fun _ S => .ok a S
def c1 (f : A → M A) (a : C) : C := fun e => bnd (a e) f
def c2 (f : A → A → M A) (a b : C) : C := fun e => bnd (a e) fun x => bnd (b e) fun y => f x y
def cNil : CL := fun _ S => .ok [] S
def cCons (a : C) (b : CL) : CL := fun e => bnd (a e) fun x => bnd (b e) fun ys S => .ok (x :: ys) S
def cApp (f : List A → M A) (as : CL) : C := fun e => bnd (as e) f
/-- a value's truth where it is a bool -/
def asB (a : A) : M Bool := match a with
  | .bl b => pur b
  | _ => bad
def tVal (c : C) : CB := fun e => bnd (c e) asB
def tAnd (a b : CB) : CB := fun e => bnd (a e) fun x => if x then b e else pur false
def tOr (a b : CB) : CB := fun e => bnd (a e) fun x => if x then pur true else b e
def tNot (a : CB) : CB := fun e => bnd (a e) fun x => pur (!x)
def cBool (a : CB) : C := fun e => bnd (a e) fun x => pur (.bl x)
def cAnd (a b : C) : C := fun e => bnd (a e) fun x => bnd (asB x) fun x => if x then b e else pur (.bl false)
def cOr (a b : C) : C := fun e => bnd (a e) fun x => bnd (asB x) fun x => if x then pur (.bl true) else b e
def cNot (a : C) : C := fun e => bnd (a e) fun x => bnd (asB x) fun x => pur (.bl (!x))
def cIf (t : CB) (a b : C) : C := fun e => bnd (t e) fun x => if x then a e else b e
/-- a op b op' c -/
def cChain (f g : A → A → M A) (a b c : C) : C := fun e => bnd (a e) fun x => bnd (b e) fun y => bnd (f x y) fun z => bnd (asB z) fun z => if z then bnd (c e) fun u => g y u else pur (.bl false)

/-- a two-place operation's reading is met -/
def Op2 (K : PySem.W.Frag) (r : R2) (f : A → A → M A) : Prop :=
  ∀ (w : Wd) (S : Store) (σ : SV) (W : WX) (a b : A) (x y : V) (Q : VK), Rel K w S → RA K w.F w.m a x → RA K w.F w.m b y → Po K W (rA K) w σ (f a b S) Q → r x y w.H Q
def Op1 (K : PySem.W.Frag) (r : V → Hp → VK → Prop) (f : A → M A) : Prop :=
  ∀ (w : Wd) (S : Store) (σ : SV) (W : WX) (a : A) (x : V) (Q : VK), Rel K w S → RA K w.F w.m a x → Po K W (rA K) w σ (f a S) Q → r x w.H Q
def OpN (K : PySem.W.Frag) (r : List V → Hp → VK → Prop) (f : List A → M A) : Prop :=
  ∀ (w : Wd) (S : Store) (σ : SV) (W : WX) (a : List A) (x : List V) (Q : VK), Rel K w S → RAs K w.F w.m a x → Po K W (rA K) w σ (f a S) Q → r x w.H Q

section
variable {X : Cx} {W : WX} {a b c e : Expr} {es : List Expr} {ca cb cc : C} {cl : CL} {ta tb : CB} {pos : Pos}
theorem e_var (i : Nat) {x : Str} (hN : X.N[i]? = some x := by rfl) (hv : Vis X.env.scope x := by first | exact Or.inl rfl | exact Or.inr (Or.inl rfl) | exact Or.inr (Or.inr rfl)) (hd : (x == ("__debug__" : Str)) = false := by decide)
    (hcd : (x == ("__classdict__" : Str)) = false := by decide) : PE X (.Name x pos) (tC X.K W (cVar i)) := by
  refine PE.weak (pe_var hN hv hd hcd) fun σ H Q ⟨w, e, S, eH, r, re, h⟩ => ?_
  subst eH
  unfold cVar at h
  cases q : e[i]? with
  | none => rw [q] at h; exact h.elim
  | some o =>
    rw [q] at h
    cases o with
    | none => exact h.elim
    | some a =>
      obtain ⟨v, hv, ra⟩ := re.get q
      exact ⟨v, hv, Po.now h r ra⟩
theorem e_const {v : V} {x : A} (h : PE X e (L2.tC v)) (hx : ∀ w : Wd, RA X.K w.F w.m x v) : PE X e (tC X.K W (cC x)) :=
  PE.weak h fun σ H Q ⟨w, e, S, eH, r, re, h⟩ => by
    subst eH
    exact Po.now h r (hx w)
theorem e_int {i : Int} {j : Nat} : PE X (.Constant (.int i) j pos) (tC X.K W (cC (.int i))) := e_const pe_int fun _ => .int i
theorem e_bl {i : Bool} {j : Nat} : PE X (.Constant (.bool i) j pos) (tC X.K W (cC (.bl i))) := e_const pe_bl fun _ => .bl i
theorem e_non {j : Nat} : PE X (.Constant .none j pos) (tC X.K W (cC .non)) := e_const pe_non fun _ => .non
theorem e_str {x : Str} {j : Nat} : PE X (.Constant (.str x) j pos) (tC X.K W (cC (.str x))) := e_const pe_str fun _ => .str x
theorem e_bin {op : Operator} {r : R2} {f : A → A → M A} (ho : OpR X (binaryOp op) r) (hf : Op2 X.K r f) (ha : PE X a (tC X.K W ca)) (hb : PE X b (tC X.K W cb)) : PE X (.BinOp a op b pos) (tC X.K W (c2 f ca cb)) := by
  refine PE.weak (pe_op ho ha hb) fun σ H Q ⟨w, e, S, eH, r, re, h⟩ => ?_
  refine ⟨w, e, S, eH, r, re, h.bnd fun x S1 w1 v e1 r1 q1 h1 => ?_⟩
  refine ⟨w1, e, S1, rfl, r1, re.ext e1, h1.bnd fun y S2 w2 u e2 r2 q2 h2 => ?_⟩
  exact hf w2 S2 σ W x y v u Q r2 (q1.ext e2) q2 h2
theorem e_un {op : UnaryOp} {r : V → Hp → VK → Prop} {f : A → M A} (ho : UnR X (unaryOp op) r) (hf : Op1 X.K r f) (ha : PE X a (tC X.K W ca)) : PE X (.UnaryOp op a pos) (tC X.K W (c1 f ca)) := by
  refine PE.weak (pe_un ho ha) fun σ H Q ⟨w, e, S, eH, r, re, h⟩ => ?_
  refine ⟨w, e, S, eH, r, re, h.bnd fun x S1 w1 v e1 r1 q1 h1 => ?_⟩
  exact hf w1 S1 σ W x v Q r1 q1 h1
theorem e_cmp {op : CmpOp} {r : R2} {f : A → A → M A} (ho : OpR X (compareOp op) r) (hf : Op2 X.K r f) (ha : PE X a (tC X.K W ca)) (hb : PE X b (tC X.K W cb)) (hm : behindInMarks op b = false := by first | exact nomark _ | rfl) :
    PE X (.Compare a [op] [b] pos) (tC X.K W (c2 f ca cb)) := by
  refine PE.weak (pe_cmpR ho ha hb hm) fun σ H Q ⟨w, e, S, eH, r, re, h⟩ => ?_
  refine ⟨w, e, S, eH, r, re, h.bnd fun x S1 w1 v e1 r1 q1 h1 => ?_⟩
  refine ⟨w1, e, S1, rfl, r1, re.ext e1, h1.bnd fun y S2 w2 u e2 r2 q2 h2 => ?_⟩
  exact hf w2 S2 σ W x y v u Q r2 (q1.ext e2) q2 h2
/-- the test's continuation by a value's -/
theorem Po.asB {K : PySem.W.Frag} {W : WX} {w : Wd} {σ : SV} {x : A} {S : Store} {Q : Bool → Hp → Prop} {v : V} (r : Rel K w S) (q : RA K w.F w.m x v) (h : Po K W rB w σ (VM.asB x S) Q) : ∃ k, v = .bl k ∧ Q k w.H := by
  cases x with
  | bl k => cases q; exact ⟨k, rfl, Po.nowB h r⟩
  | _ => exact h.elim
theorem t_cmp {op : CmpOp} {r : R2} {f : A → A → M A} (ho : OpR X (compareOp op) r) (hf : Op2 X.K r f) (ha : PE X a (tC X.K W ca)) (hb : PE X b (tC X.K W cb)) (hm : behindInMarks op b = false := by first | exact nomark _ | rfl) :
    PT X (.Compare a [op] [b] pos) (tB X.K W (tVal (c2 f ca cb))) := by
  refine PT.weak (pt_cmpR ho ha hb hm) fun σ H Q ⟨w, e, S, eH, r, re, h⟩ => ?_
  have h' : Po X.K W (rA X.K) w σ (c2 f ca cb e S) (fun x H' => ∃ k, x = .bl k ∧ Q k H') := Po.bnd h fun x S1 w1 v e1 r1 q1 h1 => h1.asB r1 q1
  refine ⟨w, e, S, eH, r, re, h'.bnd fun x S1 w1 v e1 r1 q1 h1 => ?_⟩
  refine ⟨w1, e, S1, rfl, r1, re.ext e1, h1.bnd fun y S2 w2 u e2 r2 q2 h2 => ?_⟩
  exact hf w2 S2 σ W x y v u _ r2 (q1.ext e2) q2 h2
/-- a value as a test -/
theorem t_val (h : PE X e (tC X.K W ca)) (he : ∀ whole, isTrue e X.env whole = (do let v ← whole; standAt e.pos; holding [v] (truthy v)) := by intro _; rfl) : PT X e (tB X.K W (tVal ca)) := by
  refine PT.weak (pt_val h he) fun σ H Q ⟨w, e, S, eH, r, re, h⟩ => ?_
  exact ⟨w, e, S, eH, r, re, Po.bnd h fun x S1 w1 v e1 r1 q1 h1 => h1.asB r1 q1⟩
theorem w_and1 (ha : PT X a (tB X.K W ta)) : PW X (.BoolOp .And [a] pos) (tB X.K W ta) := pw_and1 ha
theorem w_or1 (ha : PT X a (tB X.K W ta)) : PW X (.BoolOp .Or [a] pos) (tB X.K W ta) := pw_or1 ha
theorem w_and {rest : List Expr} (ha : PT X a (tB X.K W ta)) (hb : PW X (.BoolOp .And (b :: rest) pos) (tB X.K W tb)) : PW X (.BoolOp .And (a :: b :: rest) pos) (tB X.K W (tAnd ta tb)) := by
  refine PW.weak (pw_and ha hb) fun σ H Q ⟨w, e, S, eH, r, re, h⟩ => ?_
  refine ⟨w, e, S, eH, r, re, Po.bnd h fun x S1 w1 v e1 r1 q1 h1 => ?_⟩
  cases (show x = v from q1)
  cases x with
  | true => exact ⟨w1, e, S1, rfl, r1, re.ext e1, h1⟩
  | false => exact Po.nowB h1 r1
theorem w_or {rest : List Expr} (ha : PT X a (tB X.K W ta)) (hb : PW X (.BoolOp .Or (b :: rest) pos) (tB X.K W tb)) : PW X (.BoolOp .Or (a :: b :: rest) pos) (tB X.K W (tOr ta tb)) := by
  refine PW.weak (pw_or ha hb) fun σ H Q ⟨w, e, S, eH, r, re, h⟩ => ?_
  refine ⟨w, e, S, eH, r, re, Po.bnd h fun x S1 w1 v e1 r1 q1 h1 => ?_⟩
  cases (show x = v from q1)
  cases x with
  | false => exact ⟨w1, e, S1, rfl, r1, re.ext e1, h1⟩
  | true => exact Po.nowB h1 r1
theorem t_not (ha : PT X a (tB X.K W ta)) : PT X (.UnaryOp .Not a pos) (tB X.K W (tNot ta)) := by
  refine PT.weak (pt_not ha) fun σ H Q ⟨w, e, S, eH, r, re, h⟩ => ?_
  refine ⟨w, e, S, eH, r, re, Po.bnd h fun x S1 w1 v e1 r1 q1 h1 => ?_⟩
  cases (show x = v from q1)
  exact Po.nowB h1 r1
theorem e_one {op : BoolOp} (h : PE X a (tC X.K W ca)) : PE X (.BoolOp op [a] pos) (tC X.K W ca) := pe_one h
theorem e_and {rest : List Expr} (ha : PE X a (tC X.K W ca)) (hb : PE X (.BoolOp .And (b :: rest) pos) (tC X.K W cb)) : PE X (.BoolOp .And (a :: b :: rest) pos) (tC X.K W (cAnd ca cb)) := by
  refine PE.weak (pe_and ha hb) fun σ H Q ⟨w, e, S, eH, r, re, h⟩ => ?_
  refine ⟨w, e, S, eH, r, re, Po.bnd h fun x S1 w1 v e1 r1 q1 h1 => ?_⟩
  cases x with
  | bl k =>
    cases q1
    refine ⟨k, rfl, ?_⟩
    cases k with
    | true => exact ⟨w1, e, S1, rfl, r1, re.ext e1, h1⟩
    | false => exact Po.now h1 r1 (.bl false)
  | _ => exact h1.elim
theorem e_or {rest : List Expr} (ha : PE X a (tC X.K W ca)) (hb : PE X (.BoolOp .Or (b :: rest) pos) (tC X.K W cb)) : PE X (.BoolOp .Or (a :: b :: rest) pos) (tC X.K W (cOr ca cb)) := by
  refine PE.weak (pe_or ha hb) fun σ H Q ⟨w, e, S, eH, r, re, h⟩ => ?_
  refine ⟨w, e, S, eH, r, re, Po.bnd h fun x S1 w1 v e1 r1 q1 h1 => ?_⟩
  cases x with
  | bl k =>
    cases q1
    refine ⟨k, rfl, ?_⟩
    cases k with
    | false => exact ⟨w1, e, S1, rfl, r1, re.ext e1, h1⟩
    | true => exact Po.now h1 r1 (.bl true)
  | _ => exact h1.elim
theorem e_not (ha : PE X a (tC X.K W ca)) : PE X (.UnaryOp .Not a pos) (tC X.K W (cNot ca)) := by
  refine PE.weak (pe_not ha) fun σ H Q ⟨w, e, S, eH, r, re, h⟩ => ?_
  refine ⟨w, e, S, eH, r, re, Po.bnd h fun x S1 w1 v e1 r1 q1 h1 => ?_⟩
  cases x with
  | bl k => cases q1; exact ⟨k, rfl, Po.now h1 r1 (.bl _)⟩
  | _ => exact h1.elim
theorem e_if {t : Expr} (ht : PT X t (tB X.K W ta)) (ha : PE X a (tC X.K W ca)) (hb : PE X b (tC X.K W cb)) : PE X (.IfExp t a b pos) (tC X.K W (cIf ta ca cb)) := by
  refine PE.weak (pe_ifExp ht ha hb) fun σ H Q ⟨w, e, S, eH, r, re, h⟩ => ?_
  refine ⟨w, e, S, eH, r, re, Po.bnd h fun x S1 w1 v e1 r1 q1 h1 => ?_⟩
  cases (show x = v from q1)
  cases x with
  | true => exact ⟨w1, e, S1, rfl, r1, re.ext e1, h1⟩
  | false => exact ⟨w1, e, S1, rfl, r1, re.ext e1, h1⟩
theorem chain_rd {r r' : R2} {f g : A → A → M A} (hf : Op2 X.K r f) (hg : Op2 X.K r' g) (σ : SV) (H : Hp) (Q : VK) (h : tC X.K W (cChain f g ca cb cc) σ H Q) : tChain r r' (tC X.K W ca) (tC X.K W cb) (tC X.K W cc) σ H Q := by
  obtain ⟨w, e, S, eH, r, re, h⟩ := h
  refine ⟨w, e, S, eH, r, re, Po.bnd h fun x S1 w1 v e1 r1 q1 h1 => ?_⟩
  refine ⟨w1, e, S1, rfl, r1, re.ext e1, Po.bnd h1 fun y S2 w2 u e2 r2 q2 h2 => ?_⟩
  refine hf w2 S2 σ W x y v u _ r2 (q1.ext e2) q2 (h2.bnd fun z S3 w3 t e3 r3 q3 h3 => ?_)
  cases z with
  | bl k =>
    cases q3
    refine ⟨k, rfl, ?_⟩
    cases k with
    | true =>
      refine ⟨w3, e, S3, rfl, r3, ((re.ext e1).ext e2).ext e3, Po.bnd h3 fun z S4 w4 t e4 r4 q4 h4 => ?_⟩
      exact hg w4 S4 σ W y z u t Q r4 ((q2.ext e3).ext e4) q4 h4
    | false => exact Po.now h3 r3 (.bl false)
  | _ => exact h3.elim
theorem e_chain {op op' : CmpOp} {r r' : R2} {f g : A → A → M A} (ho : OpR X (compareOp op) r) (ho' : OpR X (compareOp op') r') (hf : Op2 X.K r f) (hg : Op2 X.K r' g)
    (ha : PE X a (tC X.K W ca)) (hb : PE X b (tC X.K W cb)) (hc : PE X c (tC X.K W cc)) (hm : lastMarks [op, op'] [b, c] = false := by with_unfolding_all rfl) :
    PE X (.Compare a [op, op'] [b, c] pos) (tC X.K W (cChain f g ca cb cc)) := PE.weak (pe_chain ho ho' ha hb hc hm) fun σ H Q h => chain_rd hf hg σ H Q h
theorem t_chain {op op' : CmpOp} {r r' : R2} {f g : A → A → M A} (ho : OpR X (compareOp op) r) (ho' : OpR X (compareOp op') r') (hf : Op2 X.K r f) (hg : Op2 X.K r' g)
    (ha : PE X a (tC X.K W ca)) (hb : PE X b (tC X.K W cb)) (hc : PE X c (tC X.K W cc)) (hm : lastMarks [op, op'] [b, c] = false := by with_unfolding_all rfl) :
    PT X (.Compare a [op, op'] [b, c] pos) (tB X.K W (tVal (cChain f g ca cb cc))) := PT.weak (pt_chain ho ho' ha hb hc hm) fun σ H Q ⟨w, e, S, eH, r, re, h⟩ =>
  chain_rd hf hg σ H _ ⟨w, e, S, eH, r, re, Po.bnd h fun x S1 w1 v e1 r1 q1 h1 => h1.asB r1 q1⟩
/-! arguments -/
theorem a_nil : PA X [] (tL X.K W cNil) := PA.weak pa_nil fun σ H Q ⟨w, e, S, eH, r, re, h⟩ => by subst eH; exact h w [] (Ext.refl w) r .nil
theorem a_cons (ha : PE X a (tC X.K W ca)) (hr : PA X es (tL X.K W cl)) (hs : starEach (a :: es) X.env = (false, eval a X.env) :: starEach es X.env := by rfl) : PA X (a :: es) (tL X.K W (cCons ca cl)) := by
  refine PA.weak (pa_cons ha hr hs) fun σ H Q ⟨w, e, S, eH, r, re, h⟩ => ?_
  refine ⟨w, e, S, eH, r, re, Po.bnd h fun x S1 w1 v e1 r1 q1 h1 => ?_⟩
  refine ⟨w1, e, S1, rfl, r1, re.ext e1, Po.bnd h1 fun y S2 w2 u e2 r2 q2 h2 => ?_⟩
  exact h2 w2 (v :: u) (Ext.refl _) r2 (.cons (q1.ext e2) q2)
/-- a built-in's call -/
theorem e_callB {x : Str} {p : Pos} {id : String} {r : List V → Hp → VK → Prop} {f : List A → M A} (hc : CallR X (.builtin id) r) (hf : OpN X.K r f) (hg : Gl X x) (hm : X.mg x = none) (hv : bootBuiltins x = some (.builtin id)) (ha : PA X (e :: es) (tL X.K W cl)) (hn : x ≠ "__name__" := by decide) (hdb : (x == ("__debug__" : Str)) = false := by decide)
    (he : starEach (e :: es) X.env = (false, eval e X.env) :: starEach es X.env := by rfl) (hpl : (backTo pos (starEach es X.env)).any (·.1) = false := by rfl) : PE X (.Call (.Name x p) (e :: es) [] pos) (tC X.K W (cApp f cl)) := by
  refine PE.weak (pe_callB hc hg hm hv ha hn hdb he hpl) fun σ H Q ⟨w, e, S, eH, r, re, h⟩ => ?_
  refine ⟨w, e, S, eH, r, re, Po.bnd h fun x S1 w1 v e1 r1 q1 h1 => ?_⟩
  exact hf w1 S1 σ W x v Q r1 q1 h1
theorem e_callTy {x : Str} {p : Pos} {T : String} {r : List V → Hp → VK → Prop} {f : List A → M A} (hc : CallR X (.type T) r) (hf : OpN X.K r f) (hg : Gl X x) (hm : X.mg x = none) (hv : bootBuiltins x = some (.type T)) (ha : PA X (e :: es) (tL X.K W cl)) (hn : x ≠ "__name__" := by decide) (hdb : (x == ("__debug__" : Str)) = false := by decide)
    (he : starEach (e :: es) X.env = (false, eval e X.env) :: starEach es X.env := by rfl) (hpl : (backTo pos (starEach es X.env)).any (·.1) = false := by rfl) : PE X (.Call (.Name x p) (e :: es) [] pos) (tC X.K W (cApp f cl)) := by
  refine PE.weak (pe_callTy hc hg hm hv ha hn hdb he hpl) fun σ H Q ⟨w, e, S, eH, r, re, h⟩ => ?_
  refine ⟨w, e, S, eH, r, re, Po.bnd h fun x S1 w1 v e1 r1 q1 h1 => ?_⟩
  exact hf w1 S1 σ W x v Q r1 q1 h1
theorem e_ix {r : R2} {f : A → A → M A} (hr : IxR X r) (hf : Op2 X.K r f) (ha : PE X a (tC X.K W ca)) (hb : PE X b (tC X.K W cb)) (hs : PlainIx b := by exact fun _ _ => rfl) : PE X (.Subscript a b pos) (tC X.K W (c2 f ca cb)) := by
  refine PE.weak (pe_ix hr ha hb hs) fun σ H Q ⟨w, e, S, eH, r, re, h⟩ => ?_
  refine ⟨w, e, S, eH, r, re, Po.bnd h fun x S1 w1 v e1 r1 q1 h1 => ?_⟩
  refine ⟨w1, e, S1, rfl, r1, re.ext e1, Po.bnd h1 fun y S2 w2 u e2 r2 q2 h2 => ?_⟩
  exact hf w2 S2 σ W x y v u Q r2 (q1.ext e2) q2 h2
end
end VM
end
section
set_option Elab.async false
set_option linter.all false
set_option maxRecDepth 100000
set_option maxHeartbeats 4000000
set_option autoImplicit false
/-! Statements, loops, comprehensions, defs. -/
namespace VM
open PySem PySem.Spec PyProof.Rows L2

def sNil : CS := fun e S => .nx e S
def sSeq (a b : CS) : CS := fun e S => match a e S with
  | .nx e' S' => b e' S'
  | r => r
def sSet (i : Nat) (c : C) : CS := fun e S => match c e S with
  | .ok a S' => .nx (e.set i (some a)) S'
  | .exc x S' => .exc x e S'
  | .bad => .bad
def sRet (c : C) : CS := fun e S => match c e S with
  | .ok a S' => .rt a S'
  | .exc x S' => .exc x e S'
  | .bad => .bad
def sRetN : CS := fun _ S => .rt .non S
def sExp (c : C) : CS := fun e S => match c e S with
  | .ok _ S' => .nx e S'
  | .exc x S' => .exc x e S'
  | .bad => .bad
def sIf (t : CB) (a b : CS) : CS := fun e S => match t e S with
  | .ok true S' => a e S'
  | .ok false S' => b e S'
  | .exc x S' => .exc x e S'
  | .bad => .bad
def sBrk : CS := fun e S => .bk e S
def sCnt : CS := fun e S => .ct e S
abbrev CG := A → CS
def gN (i : Nat) : CG := fun a e S => .nx (e.set i (some a)) S
def gsq : List CG → List A → CS
  | [], [] => sNil
  | g :: gs, x :: xs => fun e S => match g x e S with
    | .nx e' S' => gsq gs xs e' S'
    | r => r
  | _, _ => fun _ _ => .bad
def gT (gs : List CG) : CG := fun a => match a with
  | .tup xs => gsq gs xs
  | _ => fun _ _ => .bad
def gSub (o i : C) (st : A → A → A → M A) : CG := fun a e S => match bnd (o e) (fun x => bnd (i e) fun y => st x y a) S with
  | .ok _ S' => .nx e S'
  | .exc x S' => .exc x e S'
  | .bad => .bad
def sAsg (c : C) (g : CG) : CS := fun e S => match c e S with
  | .ok a S' => g a e S'
  | .exc x S' => .exc x e S'
  | .bad => .bad
def kill : List Nat → Slots → Slots
  | [], e => e
  | k :: ks, e => kill ks (e.set k none)
/-- what a turn gives, what comes behind it -/
def turnL (nxt : CS) (ks : List Nat) (r : RS) : RS := match r with
  | .nx e S => nxt e S
  | .ct e S => nxt e S
  | .bk e S => .nx (kill ks e) S
  | r => r
def loopL (g : CG) (body : CS) (ks : List Nat) : List A → CS
  | [] => fun e S => .nx (kill ks e) S
  | x :: xs => fun e S => match g x (kill ks e) S with
    | .nx e1 S1 => turnL (loopL g body ks xs) ks (body e1 S1)
    | r => r
/-- the items of what stands still -/
def itemsF (a : A) : M (List A) := match a with
  | .lst xs => pur xs
  | .tup xs => pur xs
  | _ => bad
def itemsStr (a : A) : M (List A) := match a with
  | .str s => pur (s.cps.toList.map fun c => .str ⟨#[c]⟩)
  | _ => bad
def okRg (i : Int) : Bool := decide (-(2 ^ 62) ≤ i ∧ i < 2 ^ 62)
def itemsR1 (a : A) : M (List A) := match a with
  | .int j => if okRg j then pur ((List.range j.toNat).map fun k => .int (0 + (k : Nat))) else bad
  | _ => bad
def itemsR2 (a b : A) : M (List A) := match a, b with
  | .int i, .int j => if okRg i && okRg j then pur ((List.range (j - i).toNat).map fun k => .int (i + (k : Nat))) else bad
  | _, _ => bad
def sFor (it : CL) (g : CG) (body : CS) (ks : List Nat) : CS := fun e S => match it e S with
  | .ok xs S' => loopL g body ks xs e S'
  | .exc x S' => .exc x e S'
  | .bad => .bad
def cItF (c : C) : CL := fun e => bnd (c e) itemsF
def cItS (c : C) : CL := fun e => bnd (c e) itemsStr
def cItR1 (c : C) : CL := fun e => bnd (c e) itemsR1
def cItR2 (c d : C) : CL := fun e => bnd (c e) fun x => bnd (d e) fun y => itemsR2 x y
def whileL (t : CB) (body : CS) (ks : List Nat) : Nat → CS
  | 0 => fun _ _ => .bad
  | n + 1 => fun e S => match t (kill ks e) S with
    | .ok true S1 => turnL (whileL t body ks n) ks (body (kill ks e) S1)
    | .ok false S1 => .nx (kill ks e) S1
    | .exc x S1 => .exc x (kill ks e) S1
    | .bad => .bad
def sWhile (n : Nat) (t : CB) (body : CS) (ks : List Nat) : CS := whileL t body ks n
def cYes : CB := fun _ => pur true
def turnC (g : CG) (t : CB) (el : C) (e0 : Slots) (x : A) : M (Option A) := fun S => match g x e0 S with
  | .nx e1 S1 => (match t e1 S1 with
    | .ok true S2 => (match el e1 S2 with
      | .ok y S3 => .ok (some y) S3
      | _ => .bad)
    | .ok false S2 => .ok none S2
    | _ => .bad)
  | _ => .bad
def lcL (g : CG) (t : CB) (el : C) (e0 : Slots) : List A → List A → M (List A)
  | [], acc => pur acc
  | x :: xs, acc => fun S => match turnC g t el e0 x S with
    | .ok (some y) S' => if acc.length < 16777216 then lcL g t el e0 xs (acc ++ [y]) S' else .bad
    | .ok none S' => lcL g t el e0 xs acc S'
    | _ => .bad
def finL (r : R (List A)) : R A := match r with
  | .ok ys S' => .ok (.lst ys) S'
  | _ => .bad
def cLc (it : CL) (vs : List Nat) (g : CG) (t : CB) (el : C) : C := fun e => bnd (it e) fun xs S => finL (lcL g t el (kill vs e) xs [] S)

section
variable {K : PySem.W.Frag} {W : WX} {F : Hp} {m : List Addr}
theorem RE.kill {e : Slots} {σ : SV} (h : RE K F m e σ) : ∀ ks : List Nat, RE K F m (kill ks e) σ
  | [] => h
  | k :: ks => RE.kill (h.unset k) ks
theorem kill_set (k : Nat) : ∀ (ks : List Nat) (e : Slots), kill ks (e.set k none) = (kill ks e).set k none
  | [], e => rfl
  | j :: js, e => by
    show kill js ((e.set k none).set j none) = (kill js (e.set j none)).set k none
    rw [← kill_set k js (e.set j none)]
    by_cases h : k = j
    · subst h; rfl
    · rw [List.set_comm _ _ h]
theorem RE.wipe {e : Slots} {σ : SV} (h : RE K F m e σ) : ∀ ks : List Nat, RE K F m (VM.kill ks e) (L2.wipe σ ks)
  | [] => h
  | k :: ks => by
    show RE K F m (VM.kill ks (e.set k none)) ((L2.wipe σ ks).set k none)
    rw [kill_set]
    exact (RE.wipe h ks).unset2 k
end

section
variable {X : Cx} {W : WX} {a b c e : Expr} {es : List Expr} {ca cb cc : C} {cl : CL} {tt : CB} {pos : Pos} {st : Stmt} {rest : List Stmt} {s1 s2 : CS}
theorem x_nil : PSs X [] (tS X.K W sNil) := PSs.weak pss_nil fun D σ H ⟨w, e, S, eH, r, re, h⟩ => by subst eH; exact h w σ (Ext.refl w) r re
theorem x_cons (h1 : PS X st (tS X.K W s1)) (h2 : PSs X rest (tS X.K W s2)) : PSs X (st :: rest) (tS X.K W (sSeq s1 s2)) := by
  refine PSs.weak (pss_cons h1 h2) fun D σ H ⟨w, e, S, eH, r, re, h⟩ => ?_
  refine ⟨w, e, S, eH, r, re, ?_⟩
  unfold sSeq at h
  cases q : s1 e S with
  | nx e' S' =>
    rw [q] at h
    exact fun w' σ' e1 r1 re1 => ⟨w', e', S', rfl, r1, re1, h.ext e1⟩
  | rt _ _ => rw [q] at h; exact h
  | bk _ _ => rw [q] at h; exact h
  | ct _ _ => rw [q] at h; exact h
  | exc _ _ _ => rw [q] at h; exact h
  | bad => rw [q] at h; exact h
theorem x_one (h1 : PS X st (tS X.K W s1)) : PSs X [st] (tS X.K W s1) := pss_one h1
theorem x_pass : PS X (.Pass pos) (tS X.K W sNil) := PS.weak ps_pass fun D σ H ⟨w, e, S, eH, r, re, h⟩ => by subst eH; exact h w σ (Ext.refl w) r re
theorem x_brk : PS X (.Break pos) (tS X.K W sBrk) := PS.weak ps_break fun D σ H ⟨w, e, S, eH, r, re, h⟩ => by subst eH; exact h w σ (Ext.refl w) r re
theorem x_cnt : PS X (.Continue pos) (tS X.K W sCnt) := PS.weak ps_continue fun D σ H ⟨w, e, S, eH, r, re, h⟩ => by subst eH; exact h w σ (Ext.refl w) r re
/-- a value's result, then a statement's -/
theorem PoS.of {K : PySem.W.Frag} {w : Wd} {e : Slots} {σ : SV} {out : R A} {k : A → Store → RS} {D : Ends} {Q : VK} (re : RE K w.F w.m e σ)
    (h : PoS K W w (match out with | .ok a S' => k a S' | .exc x S' => .exc x e S' | .bad => .bad) D) (hk : ∀ a S' w' v, Ext w w' → Rel K w' S' → RA K w'.F w'.m a v → PoS K W w' (k a S') D → Q v w'.H) : Po K W (rA K) w σ out Q := by
  cases out with
  | ok a S' => exact fun w' v e' r q => hk a S' w' v e' r q (h.ext e')
  | exc x S' => exact fun w' c d e' r q => h w' σ c d e' r (re.ext e') q
  | bad => exact h
theorem x_set (i : Nat) {x : Str} {p : Pos} (hN : X.N.Nodup) (he : PE X e (tC X.K W ca)) (hi : X.N[i]? = some x := by rfl) (hx : Loc X.env.scope x := by first | exact .inl rfl | exact .inr rfl) (hs : swapsWith e (some (.Name x p)) pos.line X.env = pure false := by rfl)
    (hf : X.fn x = true ∨ X.env.scope.names.lookup x = some .local := by first | exact .inl rfl | exact .inr rfl | assumption) : PS X (.Assign [.Name x p] e pos) (tS X.K W (sSet i ca)) := by
  refine PS.weak (ps_set (i := i) hN hi hx he hs hf) fun D σ H ⟨w, e, S, eH, r, re, h⟩ => ?_
  refine ⟨w, e, S, eH, r, re, PoS.of (k := fun a S' => .nx (e.set i (some a)) S') re h fun a S' w' v e1 r1 q1 h1 => ?_⟩
  exact h1 w' _ (Ext.refl _) r1 ((re.ext e1).set q1 i)
theorem x_exp (he : PE X e (tC X.K W ca)) (hs : swapsWith e none pos.line X.env = pure false := by rfl) : PS X (.Expr e pos) (tS X.K W (sExp ca)) := by
  refine PS.weak (ps_expr he hs) fun D σ H ⟨w, e, S, eH, r, re, h⟩ => ?_
  exact ⟨w, e, S, eH, r, re, PoS.of (k := fun a S' => .nx e S') re h fun a S' w' v e1 r1 q1 h1 => h1 w' σ (Ext.refl _) r1 (re.ext e1)⟩
theorem x_ret (he : PE X e (tC X.K W ca)) : PS X (.Return (some e) pos) (tS X.K W (sRet ca)) := by
  refine PS.weak (ps_ret he) fun D σ H ⟨w, e, S, eH, r, re, h⟩ => ?_
  exact ⟨w, e, S, eH, r, re, PoS.of (k := fun a S' => .rt a S') re h fun a S' w' v e1 r1 q1 h1 => h1 w' v (Ext.refl _) r1 q1⟩
theorem x_retN : PS X (.Return none pos) (tS X.K W sRetN) := PS.weak ps_retN fun D σ H ⟨w, e, S, eH, r, re, h⟩ => by subst eH; exact h w .non (Ext.refl w) r .non
theorem x_if {t : Expr} {as bs : List Stmt} (ht : PT X t (tB X.K W tt)) (ha : PSs X as (tS X.K W s1)) (hb : PSs X bs (tS X.K W s2)) : PS X (.If t as bs pos) (tS X.K W (sIf tt s1 s2)) := by
  refine PS.weak (ps_if ht ha hb) fun D σ H ⟨w, e, S, eH, r, re, h⟩ => ?_
  refine ⟨w, e, S, eH, r, re, ?_⟩
  unfold sIf at h
  cases q : tt e S with
  | ok k S' =>
    rw [q] at h
    intro w' v e1 r1 q1
    cases (show k = v from q1)
    cases k with
    | true => exact ⟨w', e, S', rfl, r1, re.ext e1, h.ext e1⟩
    | false => exact ⟨w', e, S', rfl, r1, re.ext e1, h.ext e1⟩
  | exc x S' => rw [q] at h; exact fun w' c d e1 r1 q1 => h w' σ c d e1 r1 (re.ext e1) q1
  | bad => rw [q] at h; exact h

/-! ### targets -/
def tG (K : PySem.W.Frag) (W : WX) (g : CG) : TG := fun v σ H Q => ∃ w e S a, w.H = H ∧ Rel K w S ∧ RE K w.F w.m e σ ∧ RA K w.F w.m a v ∧ PoS K W w (g a e S) { nx := Q, rt := fun _ _ => False }
def tGs (K : PySem.W.Frag) (W : WX) (g : List CG) : TGs := fun v σ H Q => ∃ w e S a, w.H = H ∧ Rel K w S ∧ RE K w.F w.m e σ ∧ RAs K w.F w.m a v ∧ PoS K W w (gsq g a e S) { nx := Q, rt := fun _ _ => False }
theorem PG.weak {t t' : TG} (h : PG X e t) (k : ∀ v σ H Q, t' v σ H Q → t v σ H Q) : PG X e t' := ⟨fun pins s σ H v u Q I rv q => h.run pins s σ H v u Q I rv (k v σ H Q q)⟩
theorem PGs.weak {t t' : TGs} (h : PGs X es t) (k : ∀ v σ H Q, t' v σ H Q → t v σ H Q) : PGs X es t' := ⟨fun pins s σ H v u Q I rv q => h.run pins s σ H v u Q I rv (k v σ H Q q)⟩
theorem g_name (i : Nat) {x : Str} (hN : X.N.Nodup) (hi : X.N[i]? = some x := by rfl) (hx : Loc X.env.scope x := by first | exact .inl rfl | exact .inr rfl) (hf : X.fn x = true ∨ X.env.scope.names.lookup x = some .local := by first | exact .inl rfl | exact .inr rfl | assumption) :
    PG X (.Name x pos) (tG X.K W (gN i)) := PG.weak (pg_name (i := i) hN hi hx hf) fun v σ H Q ⟨w, e, S, a, eH, r, re, ra, h⟩ => by
  subst eH
  exact h w _ (Ext.refl w) r (re.set ra i)
theorem gs_nil : PGs X [] (tGs X.K W []) := PGs.weak pgs_nil fun v σ H Q ⟨w, e, S, a, eH, r, re, ra, h⟩ => by
  subst eH
  cases ra with
  | nil => exact ⟨rfl, h w σ (Ext.refl w) r re⟩
  | cons _ _ => exact h.elim
theorem gs_cons {g : CG} {gs : List CG} (h1 : PG X e (tG X.K W g)) (h2 : PGs X es (tGs X.K W gs)) (hs : (assignEach (e :: es) X.env).map (·.2) = assign e X.env :: (assignEach es X.env).map (·.2) := by rfl) :
    PGs X (e :: es) (tGs X.K W (g :: gs)) := PGs.weak (pgs_cons h1 h2 hs) fun v σ H Q ⟨w, e, S, a, eH, r, re, ra, h⟩ => by
  cases ra with
  | nil => exact h.elim
  | @cons x u xs us r1 r2 =>
    refine ⟨u, us, rfl, w, e, S, x, eH, r, re, r1, ?_⟩
    unfold gsq at h
    cases q : g x e S with
    | nx e' S' => rw [q] at h; exact fun w' σ' e1 q1 q2 => ⟨w', e', S', xs, rfl, q1, q2, r2.ext e1, h.ext e1⟩
    | rt _ _ => rw [q] at h; exact h
    | bk _ _ => rw [q] at h; exact h
    | ct _ _ => rw [q] at h; exact h
    | exc _ _ _ => rw [q] at h; exact h
    | bad => rw [q] at h; exact h
theorem g_tup {gs : List CG} {k : Nat} (hc : X.calm = true) (h : PGs X es (tGs X.K W gs)) (hl : es.length = gs.length := by rfl) (hn : (assignEach es X.env).length = es.length := by rfl) (hst : (assignEach es X.env).findIdx? (·.1) = none := by rfl)
    (hok : ∀ (xs : List A) (e : Slots) (S : Store), xs.length ≠ gs.length → gsq gs xs e S = .bad) : PG X (.Tuple es k pos) (tG X.K W (gT gs)) := by
  refine PG.weak (pg_tup hc h hn hst) fun v σ H Q ⟨w, e, S, a, eH, r, re, ra, h⟩ => ?_
  subst eH
  cases a with
  | tup xs =>
    cases ra with
    | @tup _ p vs h1 h2 =>
      have hl' : xs.length = gs.length := by
        by_cases z : xs.length = gs.length
        · exact z
        · have h : PoS X.K W w (gsq gs xs e S) { nx := Q, rt := fun _ _ => False } := h
          rw [hok xs e S z] at h
          exact h.elim
      exact ⟨p, vs, rfl, r.sqT h1, by rw [← h2.length, hl', hl], w, e, S, xs, rfl, r, re, h2, h⟩
  | _ => exact h.elim
/-- targets that are names -/
theorem gsq_names : ∀ (is : List Nat) (xs : List A) (e : Slots) (S : Store), xs.length ≠ (is.map gN).length → gsq (is.map gN) xs e S = .bad
  | [], [], _, _, h => absurd rfl h
  | [], _ :: _, _, _, _ => rfl
  | _ :: _, [], _, _, _ => rfl
  | i :: is, x :: xs, e, S, h => by
    show gsq (is.map gN) xs (e.set i (some x)) S = .bad
    exact gsq_names is xs _ S fun z => h (by simp at z ⊢; exact z)
def Op3 (K : PySem.W.Frag) (t : TSet) (f : A → A → A → M A) : Prop :=
  ∀ (w : Wd) (S : Store) (σ : SV) (W : WX) (a b c : A) (x y z : V) (Q : Hp → Prop), Rel K w S → RA K w.F w.m a x → RA K w.F w.m b y → RA K w.F w.m c z → Po K W (rA K) w σ (f a b c S) (fun _ H => Q H) → t x y z w.H Q
theorem g_sub {o i : Expr} {t : TSet} {f : A → A → A → M A} (ho : PE X o (tC X.K W ca)) (hi : PE X i (tC X.K W cb)) (hs : PSet X t) (hf : Op3 X.K t f)
    (ha : ∀ v, assign (.Subscript o i pos) X.env v = (do
      let ov ← holding [v] (eval o X.env)
      let iv ← holding [v, ov] (eval i X.env)
      standAt pos
      holding [v, ov, iv] (setItem ov iv v)
      release [v, ov, iv] []) := by intro _; rfl) : PG X (.Subscript o i pos) (tG X.K W (VM.gSub ca cb f)) := by
  refine PG.weak (pg_sub ho hi hs ha) fun v σ H Q ⟨w, e, S, a, eH, r, re, ra, h⟩ => ?_
  have h2 : Po X.K W (rA X.K) w σ (bnd (ca e) (fun x => bnd (cb e) fun y => f x y a) S) (fun _ H' => Q σ H') := by
    unfold VM.gSub at h
    generalize bnd (ca e) (fun x => bnd (cb e) fun y => f x y a) S = out at h
    cases out with
    | ok b S' => exact fun w' v e1 r1 q1 => h w' σ e1 r1 (re.ext e1)
    | exc x S' => exact fun w' c d e1 r1 q1 => h w' σ c d e1 r1 (re.ext e1) q1
    | bad => exact h
  refine ⟨w, e, S, eH, r, re, Po.bnd h2 fun x S1 w1 v1 e1 r1 q1 h1 => ?_⟩
  refine ⟨w1, e, S1, rfl, r1, re.ext e1, Po.bnd h1 fun y S2 w2 v2 e2 r2 q2 h2 => ?_⟩
  exact hf w2 S2 σ W x y a v1 v2 v (fun H' => Q σ H') r2 (q1.ext e2) q2 ((ra.ext e1).ext e2) h2
theorem x_asg {tg : Expr} {g : CG} (he : PE X e (tC X.K W ca)) (hg : PG X tg (tG X.K W g)) (hs : swapsWithSole [tg] e pos.line X.env = pure false := by rfl) (hw : swappedStores [tg] e X.env = pure none := by rfl)
    (h1 : (assignEach [tg] X.env).map (·.2) = [assign tg X.env] := by rfl) (hnx : ∀ (a : A) (e : Slots) (S : Store), match g a e S with | .rt _ _ => False | .bk _ _ => False | .ct _ _ => False | _ => True) : PS X (.Assign [tg] e pos) (tS X.K W (sAsg ca g)) := by
  refine PS.weak (ps_asg he hg hs hw h1) fun D σ H ⟨w, e, S, eH, r, re, h⟩ => ?_
  refine ⟨w, e, S, eH, r, re, PoS.of (k := fun a S' => g a e S') re h fun a S' w' v e1 r1 q1 h1 => ?_⟩
  refine ⟨w', e, S', a, rfl, r1, re.ext e1, q1, ?_⟩
  have hn := hnx a e S'
  cases q : g a e S' with
  | nx _ _ => rw [q] at h1; exact h1
  | rt _ _ => rw [q] at hn; exact hn.elim
  | bk _ _ => rw [q] at hn; exact hn.elim
  | ct _ _ => rw [q] at hn; exact hn.elim
  | exc _ _ _ => rw [q] at h1; exact h1
  | bad => rw [q] at h1; exact h1
/-- a target that only goes on -/
def Plain (g : CG) : Prop := ∀ (a : A) (e : Slots) (S : Store), match g a e S with | .rt _ _ => False | .bk _ _ => False | .ct _ _ => False | _ => True
theorem plain_name (i : Nat) : Plain (gN i) := fun _ _ _ => trivial
theorem plain_sub {o i : C} {f : A → A → A → M A} : Plain (VM.gSub o i f) := fun a e S => by
  unfold VM.gSub
  generalize bnd (o e) (fun x => bnd (i e) fun y => f x y a) S = out
  cases out <;> trivial
theorem plain_seq : ∀ (gs : List CG), (∀ g ∈ gs, Plain g) → ∀ (xs : List A) (e : Slots) (S : Store), match gsq gs xs e S with | .rt _ _ => False | .bk _ _ => False | .ct _ _ => False | _ => True
  | [], _, [], _, _ => trivial
  | [], _, _ :: _, _, _ => trivial
  | _ :: _, _, [], _, _ => trivial
  | g :: gs, h, x :: xs, e, S => by
    unfold gsq
    have h1 := h g List.mem_cons_self x e S
    cases q : g x e S with
    | nx e' S' => exact plain_seq gs (fun g hg => h g (List.mem_cons_of_mem _ hg)) xs e' S'
    | exc _ _ _ => trivial
    | bad => trivial
    | rt _ _ => rw [q] at h1; exact h1
    | bk _ _ => rw [q] at h1; exact h1
    | ct _ _ => rw [q] at h1; exact h1
theorem plain_tup {gs : List CG} (h : ∀ g ∈ gs, Plain g) : Plain (gT gs) := fun a e S => by
  cases a with
  | tup xs => exact plain_seq gs h xs e S
  | _ => trivial
theorem plain_names (is : List Nat) : Plain (gT (is.map gN)) := plain_tup fun g hg => by
  obtain ⟨i, _, rfl⟩ := List.mem_map.mp hg
  exact plain_name i
end
end VM
end
section
set_option Elab.async false
set_option linter.all false
set_option maxRecDepth 100000
set_option maxHeartbeats 4000000
set_option autoImplicit false
/-! Loops. -/
namespace VM
open PySem PySem.Spec PyProof.Rows L2

section
variable {X : Cx} {W : WX}
/-- a turn of a loop, its body, what is behind -/
theorem turn_go {K : PySem.W.Frag} {w : Wd} {g : CG} {body : CS} {ks : List Nat} {nxt : CS} {e : Slots} {σ : SV} {S : Store} {a : A} {v : V} {D : Ends} {N : SV → Hp → Prop}
    (hN : ∀ w' e' S' σ', Rel K w' S' → RE K w'.F w'.m e' σ' → Ext w w' → PoS K W w' (nxt e' S') D → N σ' w'.H) (r : Rel K w S) (re : RE K w.F w.m e σ) (ra : RA K w.F w.m a v) (hp : Plain g)
    (h : PoS K W w (match g a e S with | .nx e1 S1 => turnL nxt ks (body e1 S1) | r => r) D) :
    tG K W g v σ w.H fun σ2 H2 => tS K W body { D with nx := N, ct := N, bk := D.nx } σ2 H2 := by
  refine ⟨w, e, S, a, rfl, r, re, ra, ?_⟩
  have hn := hp a e S
  cases q : g a e S with
  | nx e1 S1 =>
    rw [q] at h
    intro w1 σ1 x1 r1 re1
    refine ⟨w1, e1, S1, rfl, r1, re1, ?_⟩
    have h : PoS K W w (turnL nxt ks (body e1 S1)) D := h
    unfold turnL at h
    cases q2 : body e1 S1 with
    | nx e2 S2 => rw [q2] at h; exact fun w2 σ2 x2 r2 re2 => hN w2 e2 S2 σ2 r2 re2 (x1.trans x2) (h.ext (x1.trans x2))
    | ct e2 S2 => rw [q2] at h; exact fun w2 σ2 x2 r2 re2 => hN w2 e2 S2 σ2 r2 re2 (x1.trans x2) (h.ext (x1.trans x2))
    | bk e2 S2 => rw [q2] at h; exact fun w2 σ2 x2 r2 re2 => h w2 σ2 (x1.trans x2) r2 (re2.kill ks)
    | rt a S2 => rw [q2] at h; exact fun w2 v2 x2 r2 q2 => h w2 v2 (x1.trans x2) r2 q2
    | exc x e2 S2 => rw [q2] at h; exact fun w2 σ2 c d x2 r2 re2 q2 => h w2 σ2 c d (x1.trans x2) r2 re2 q2
    | bad => rw [q2] at h; exact h
  | rt _ _ => rw [q] at hn; exact hn.elim
  | bk _ _ => rw [q] at hn; exact hn.elim
  | ct _ _ => rw [q] at hn; exact hn.elim
  | exc _ _ _ => rw [q] at h; exact h
  | bad => rw [q] at h; exact h

/-- what was frozen stays, handles stay -/
structure Grow (w w' : Wd) : Prop where
  fr : ∀ p u, w.F p = some u → w'.F p = some u
  mp : ∃ l, w'.m = w.m ++ l
theorem Ext.grow {w w' : Wd} (e : Ext w w') : Grow w w' := ⟨e.fr, e.mp⟩
/-- what walks: the items, what must stay true of the abstract heap, how a turn yields -/
structure Walker (K : PySem.W.Frag) (J : It) (xs : List A) (ok : Wd → Prop) : Prop where
  keep : ∀ w w', Grow w w' → ok w → ok w'
  go : ∀ i w (S : Store), Rel K w S → ok w → i < xs.length → J.go i w.H ∧ ∀ x H', J.yld i w.H x H' → H' = w.H ∧ ∃ a, xs[i]? = some a ∧ RA K w.F w.m a x
  stop : ∀ w (S : Store), Rel K w S → ok w → J.stop xs.length w.H
theorem walk_for {K : PySem.W.Frag} {J : It} {xs : List A} {ok : Wd → Prop} (Wk : Walker K J xs ok) {g : CG} {body : CS} {ks : List Nat} {w : Wd} {e : Slots} {σ : SV} {S : Store} {D : Ends} (hp : Plain g) (r : Rel K w S) (re : RE K w.F w.m e σ) (hk : ok w)
    (h : PoS K W w (loopL g body ks xs e S) D) :
    ∃ Wf : Nat → Nat → SV → Hp → Prop, (∃ m, Wf 0 m σ w.H) ∧ ∀ i m σ H, Wf i m σ H →
      (J.stop i H ∧ D.nx σ H) ∨ (J.go i H ∧ ∃ N : SV → Hp → Prop, (∀ σ' H', N σ' H' → ∃ m', m' < m ∧ Wf (i + 1) m' σ' H') ∧ ∀ x H', J.yld i H x H' → tG K W g x σ H' fun σ2 H2 => tS K W body { D with nx := N, ct := N, bk := D.nx } σ2 H2) := by
  refine ⟨fun i m σ H => m = xs.length - i ∧ i ≤ xs.length ∧ ∃ w e S, w.H = H ∧ Rel K w S ∧ RE K w.F w.m e σ ∧ ok w ∧ PoS K W w (loopL g body ks (xs.drop i) e S) D,
    ⟨xs.length, by simp, Nat.zero_le _, w, e, S, rfl, r, re, hk, by simpa using h⟩, ?_⟩
  rintro i m σ H ⟨rfl, hi, w, e, S, rfl, r, re, hk, h⟩
  by_cases hlt : i < xs.length
  · obtain ⟨g1, g2⟩ := Wk.go i w S r hk hlt
    refine .inr ⟨g1, fun σ' H' => ∃ w' e' S', w'.H = H' ∧ Rel K w' S' ∧ RE K w'.F w'.m e' σ' ∧ ok w' ∧ PoS K W w' (loopL g body ks (xs.drop (i + 1)) e' S') D,
      fun σ' H' ⟨w', e', S', x1, x2, x3, x4, x5⟩ => ⟨xs.length - (i + 1), by omega, rfl, hlt, w', e', S', x1, x2, x3, x4, x5⟩, fun x H' y => ?_⟩
    obtain ⟨rfl, a, ha, ra⟩ := g2 x H' y
    have hd : xs.drop i = a :: xs.drop (i + 1) := by
      rw [List.drop_eq_getElem_cons hlt]
      rw [List.getElem?_eq_getElem hlt] at ha
      cases ha; rfl
    rw [hd] at h
    exact turn_go (nxt := loopL g body ks (xs.drop (i + 1))) (ks := ks) (e := kill ks e) (fun w' e' S' σ' r' re' x' h' => ⟨w', e', S', rfl, r', re', Wk.keep _ _ x'.grow hk, h'⟩) r (re.kill ks) ra hp h
  · have ei : i = xs.length := by omega
    subst ei
    rw [List.drop_length] at h
    exact .inl ⟨Wk.stop w S r hk, h w σ (Ext.refl w) r (re.kill ks)⟩
theorem walker_list {K : PySem.W.Frag} {p : Addr} {xs : List A} {vs : List V} {ok : Wd → Prop} : Walker K (Itl K p) xs (fun w => (w.F p = some (.lst vs) ∨ KL K p vs) ∧ RAs K w.F w.m xs vs) where
  keep := fun w w' e h => ⟨h.1.imp (e.fr _ _) id, h.2.mono e.fr e.mp⟩
  go := fun i w S r h hi => by
    have sq := r.sqL h.1
    obtain ⟨v, hv, ra⟩ := h.2.get (List.getElem?_eq_getElem hi)
    refine ⟨⟨vs, v, sq, hv⟩, fun x H' y => ⟨y.1, xs[i], List.getElem?_eq_getElem hi, ?_⟩⟩
    have := y.2 vs sq
    rw [hv] at this; cases this
    exact ra
  stop := fun w S r h => ⟨vs, r.sqL h.1, by rw [← h.2.length]; exact Nat.le_refl _⟩
theorem walker_tup {K : PySem.W.Frag} {p : Addr} {xs : List A} {vs : List V} {ok : Wd → Prop} : Walker K (Itt K p) xs (fun w => (w.F p = some (.tup vs) ∨ KT K p vs) ∧ RAs K w.F w.m xs vs) where
  keep := fun w w' e h => ⟨h.1.imp (e.fr _ _) id, h.2.mono e.fr e.mp⟩
  go := fun i w S r h hi => by
    have sq := r.sqT h.1
    obtain ⟨v, hv, ra⟩ := h.2.get (List.getElem?_eq_getElem hi)
    refine ⟨⟨vs, v, sq, hv⟩, fun x H' y => ⟨y.1, xs[i], List.getElem?_eq_getElem hi, ?_⟩⟩
    have := y.2 vs sq
    rw [hv] at this; cases this
    exact ra
  stop := fun w S r h => ⟨vs, r.sqT h.1, by rw [← h.2.length]; exact Nat.le_refl _⟩
theorem walker_rng {K : PySem.W.Frag} {lo : Int} {n : Nat} : Walker K (Itr lo n) ((List.range n).map fun k => A.int (lo + (k : Nat))) (fun _ => True) where
  keep := fun _ _ _ _ => trivial
  go := fun i w S r h hi => by
    have hi' : i < n := by simpa using hi
    refine ⟨hi', fun x H' y => ⟨y.1, A.int (lo + (i : Nat)), ?_, ?_⟩⟩
    · rw [List.getElem?_map, List.getElem?_range hi']; rfl
    · rw [y.2]; exact .int _
  stop := fun w S r h => by show n ≤ _; simp

/-- what is walked gives its items -/
structure Src (X : Cx) (W : WX) (wi : TI) (it : CL) : Prop where
  run : ∀ (w : Wd) (e : Slots) (S : Store) (σ : SV) (R : It → Hp → Prop), Rel X.K w S → RE X.K w.F w.m e σ →
    (∀ xs S', it e S = .ok xs S' → ∀ w' (J : It) (ok : Wd → Prop), Ext w w' → Rel X.K w' S' → RE X.K w'.F w'.m e σ → ok w' → Walker X.K J xs ok → R J w'.H) →
    (∀ x S', it e S = .exc x S' → ∀ w' c d, Ext w w' → Rel X.K w' S' → RX X.K w' x c d → W c d σ w'.H) → it e S ≠ .bad → wi σ w.H R
theorem x_for {tg iter : Expr} {body : List Stmt} {wi : TI} {it : CL} {g : CG} {b : CS} {ks : List Nat} {pos : Pos} (hp : PassesOwn (model X.prog X.w) X.A X.env X.xe) (hc : X.calm = true) (hi : PI X tg iter wi) (hs : Src X W wi it) (hg : PG X tg (tG X.K W g)) (hb : PSs X body (tS X.K W b))
    (hpl : Plain g) (hf : ∀ x, foldedSetIterable iter X.env x = pure x := by intro _; rfl) : PS X (.For tg iter body [] pos) (tS X.K W (sFor it g b ks)) := by
  refine PS.weak (ps_for hp hc hi hg hb hf) fun D σ H ⟨w, e, S, eH, r, re, h⟩ => ?_
  subst eH
  unfold sFor at h
  refine hs.run w e S σ _ r re (fun xs S' q w' J ok x1 r1 re1 hk Wk => ?_) (fun x S' q w' c d x1 r1 rx => ?_) fun q => ?_
  · rw [q] at h
    exact walk_for Wk hpl r1 re1 hk (h.ext x1)
  · rw [q] at h
    exact h w' σ c d x1 r1 (re.ext x1) rx
  · rw [q] at h; exact h

/-! ### over a list or a tuple -/
def iSq (K : PySem.W.Frag) (tl : TE) : TI := fun σ H R => tl σ H fun x H1 => ∃ a, x = .ref a ∧ (((∃ xs, SqL K H1 a xs) ∧ R (Itl K a) H1) ∨ ((∃ xs, SqT K H1 a xs) ∧ R (Itt K a) H1))
theorem pi_sq {tg l : Expr} {tl : TE} (hl : PE X l tl) : PI X tg l (iSq X.K tl) := by
  refine ⟨fun pins s σ H R I h => ?_⟩
  refine thn (hl.run pins s σ H _ I h) fun v s1 ⟨x, H1, I1, r1, q1⟩ => ?_
  obtain ⟨a, e, q⟩ := q1
  subst e
  cases r1
  rcases q with ⟨⟨xs, hq⟩, q⟩ | ⟨⟨xs, hq⟩, q⟩
  · obtain ⟨its, rv, p, hz⟩ := I1.list hq
    refine wpAny_pyIter_list p.isList ?_
    refine ⟨s1.heap.objs.size, [s1.heap.objs.size], _, _, H1, rfl, I1.kept (t' := s1.toks) fun b o e => Heap.get?_push_of_some _ e, turn_list a _, ⟨_, Heap.get?_push_size _ rfl, rfl, rfl⟩, fun b hb => ?_, q⟩
    have e : b = s1.heap.objs.size := by simpa using hb
    subst e
    exact I1.fpOk (Nat.le_refl _) (I1.hok.fresh (Nat.le_refl _))
  · obtain ⟨its, rv, p, hz⟩ := I1.tuple hq
    refine wpAny_pyIter_tuple (show s1.heap.IsTuple a its.toArray from p) ?_
    refine ⟨s1.heap.objs.size, [s1.heap.objs.size], _, _, H1, rfl, I1.kept (t' := s1.toks) fun b o e => Heap.get?_push_of_some _ e, turn_tuple a _, ⟨_, Heap.get?_push_size _ rfl, rfl, rfl⟩, fun b hb => ?_, q⟩
    have e : b = s1.heap.objs.size := by simpa using hb
    subst e
    exact I1.fpOk (Nat.le_refl _) (I1.hok.fresh (Nat.le_refl _))
/-- from the value's result to the items' -/
theorem bnd_ok {α β : Type} {m : M α} {f : α → M β} {S : Store} {a : α} {S' : Store} (h : m S = .ok a S') : bnd m f S = f a S' := by unfold bnd; rw [h]
theorem bnd_exc {α β : Type} {m : M α} {f : α → M β} {S : Store} {x : Exn} {S' : Store} (h : m S = .exc x S') : bnd m f S = .exc x S' := by unfold bnd; rw [h]
theorem bnd_bad {α β : Type} {m : M α} {f : α → M β} {S : Store} (h : m S = .bad) : bnd m f S = .bad := by unfold bnd; rw [h]
theorem src_sq {ca : C} : Src X W (iSq X.K (tC X.K W ca)) (cItF ca) where
  run := fun w e S σ R r re hk hx hb => by
    refine ⟨w, e, S, rfl, r, re, ?_⟩
    cases q : ca e S with
    | ok a S' =>
      intro w' v x1 r1 q1
      have eq : cItF ca e S = itemsF a S' := bnd_ok q
      cases a with
      | lst xs =>
        cases q1 with
        | @lst _ p vs h1 h2 => exact ⟨p, rfl, .inl ⟨⟨vs, r1.sqL h1⟩, hk xs S' eq w' (Itl X.K p) _ x1 r1 (re.ext x1) ⟨h1, h2⟩ (walker_list (ok := fun _ => True))⟩⟩
      | tup xs =>
        cases q1 with
        | @tup _ p vs h1 h2 => exact ⟨p, rfl, .inr ⟨⟨vs, r1.sqT h1⟩, hk xs S' eq w' (Itt X.K p) _ x1 r1 (re.ext x1) ⟨h1, h2⟩ (walker_tup (ok := fun _ => True))⟩⟩
      | _ => exact absurd eq hb
    | exc x S' => exact hx x S' (bnd_exc q)
    | bad => exact absurd (bnd_bad q) hb
theorem okRg_iff {i : Int} (h : okRg i = true) : -(2 ^ 62) ≤ i ∧ i < 2 ^ 62 := of_decide_eq_true h
theorem src_r1 {ca : C} : Src X W (iRng1 (tL X.K W (cCons ca cNil))) (cItR1 ca) where
  run := fun w e S σ R r re hk hx hb => by
    refine ⟨w, e, S, rfl, r, re, ?_⟩
    unfold cCons
    cases q : ca e S with
    | ok a S' =>
      rw [bnd_ok q]
      intro w' v x1 r1 q1
      have eq : cItR1 ca e S = itemsR1 a S' := bnd_ok q
      cases q1 with
      | cons h1 h2 =>
        cases h2
        cases a with
        | int j =>
          cases h1
          have eq2 : itemsR1 (.int j) S' = (if okRg j then pur ((List.range j.toNat).map fun k => A.int (0 + (k : Nat))) else bad : M (List A)) S' := rfl
          cases hj : okRg j with
          | true =>
            rw [hj] at eq2
            exact ⟨j, rfl, (okRg_iff hj).1, (okRg_iff hj).2, hk _ S' (eq.trans eq2) w' (Itr 0 j.toNat) _ x1 r1 (re.ext x1) trivial walker_rng⟩
          | false => rw [hj] at eq2; exact absurd (eq.trans eq2) hb
        | _ => exact absurd eq hb
    | exc x S' => rw [bnd_exc q]; exact hx x S' (bnd_exc q)
    | bad => exact absurd (bnd_bad q) hb
theorem src_r2 {ca cb : C} : Src X W (iRng2 (tL X.K W (cCons ca (cCons cb cNil)))) (cItR2 ca cb) where
  run := fun w e S σ R r re hk hx hb => by
    refine ⟨w, e, S, rfl, r, re, ?_⟩
    unfold cCons
    cases q : ca e S with
    | ok a S' =>
      rw [bnd_ok q]
      cases p : cb e S' with
      | ok b S2 =>
        rw [show bnd (bnd (cb e) fun x => bnd (cNil e) fun ys S => .ok (x :: ys) S) (fun ys S => VM.R.ok (a :: ys) S) S' = .ok [a, b] S2 by rw [bnd_ok (a := [b]) (S' := S2)]; rw [bnd_ok p]; rfl]
        intro w' v x1 r1 q1
        have eq : cItR2 ca cb e S = itemsR2 a b S2 := (bnd_ok q).trans (bnd_ok p)
        cases q1 with
        | cons h1 h2 =>
          cases h2 with
          | cons h2 h3 =>
            cases h3
            cases a with
            | int i =>
              cases h1
              cases b with
              | int j =>
                cases h2
                have eq2 : itemsR2 (.int i) (.int j) S2 = (if okRg i && okRg j then pur ((List.range (j - i).toNat).map fun k => A.int (i + (k : Nat))) else bad : M (List A)) S2 := rfl
                cases hj : okRg i && okRg j with
                | true =>
                  rw [hj] at eq2
                  obtain ⟨h1, h2⟩ := Bool.and_eq_true_iff.mp hj
                  exact ⟨i, j, rfl, ⟨(okRg_iff h1).1, (okRg_iff h1).2, (okRg_iff h2).1, (okRg_iff h2).2⟩, hk _ S2 (eq.trans eq2) w' (Itr i (j - i).toNat) _ x1 r1 (re.ext x1) trivial walker_rng⟩
                | false => rw [hj] at eq2; exact absurd (eq.trans eq2) hb
              | _ => exact absurd eq hb
            | _ => exact absurd eq hb
      | exc x S2 =>
        rw [show bnd (bnd (cb e) fun x => bnd (cNil e) fun ys S => .ok (x :: ys) S) (fun ys S => VM.R.ok (a :: ys) S) S' = .exc x S2 by rw [bnd_exc]; rw [bnd_exc p]]
        exact hx x S2 ((bnd_ok q).trans (bnd_exc p))
      | bad => exact absurd ((bnd_ok q).trans (bnd_bad p)) hb
    | exc x S' => rw [bnd_exc q]; exact hx x S' (bnd_exc q)
    | bad => exact absurd (bnd_bad q) hb

/-! ### while -/
theorem x_while {t : Expr} {body : List Stmt} {tt : CB} {b : CS} {ks : List Nat} {n : Nat} {pos : Pos} (hp : PassesOwn (model X.prog X.w) X.A X.env X.xe) (ht : PT X t (tB X.K W tt)) (hb : PSs X body (tS X.K W b)) :
    PS X (.While t body [] pos) (tS X.K W (sWhile n tt b ks)) := by
  refine PS.weak (ps_while hp ht hb) fun D σ H ⟨w, e, S, eH, r, re, h⟩ => ?_
  refine ⟨fun m σ H => ∃ w e S, w.H = H ∧ Rel X.K w S ∧ RE X.K w.F w.m e σ ∧ PoS X.K W w (whileL tt b ks m e S) D, ⟨n, w, e, S, eH, r, re, h⟩, ?_⟩
  rintro m σ H ⟨w, e, S, rfl, r, re, h⟩
  cases m with
  | zero => exact h.elim
  | succ m =>
    unfold whileL at h
    refine ⟨w, kill ks e, S, rfl, r, re.kill ks, ?_⟩
    cases q : tt (kill ks e) S with
    | ok k S1 =>
      rw [q] at h
      intro w1 v x1 r1 q1
      cases (show k = v from q1)
      cases k with
      | true =>
        refine ⟨fun σ' H' => ∃ w e S, w.H = H' ∧ Rel X.K w S ∧ RE X.K w.F w.m e σ' ∧ PoS X.K W w (whileL tt b ks m e S) D, fun σ' H' z => ⟨m, Nat.lt_succ_self _, z⟩, w1, kill ks e, S1, rfl, r1, (re.kill ks).ext x1, ?_⟩
        have h : PoS X.K W w (turnL (whileL tt b ks m) ks (b (kill ks e) S1)) D := h
        unfold turnL at h
        cases q2 : b (kill ks e) S1 with
        | nx e2 S2 => rw [q2] at h; exact fun w2 σ2 x2 r2 re2 => ⟨w2, e2, S2, rfl, r2, re2, h.ext (x1.trans x2)⟩
        | ct e2 S2 => rw [q2] at h; exact fun w2 σ2 x2 r2 re2 => ⟨w2, e2, S2, rfl, r2, re2, h.ext (x1.trans x2)⟩
        | bk e2 S2 => rw [q2] at h; exact fun w2 σ2 x2 r2 re2 => h w2 σ2 (x1.trans x2) r2 (re2.kill ks)
        | rt a S2 => rw [q2] at h; exact fun w2 v2 x2 r2 q2 => h w2 v2 (x1.trans x2) r2 q2
        | exc x e2 S2 => rw [q2] at h; exact fun w2 σ2 c d x2 r2 re2 q2 => h w2 σ2 c d (x1.trans x2) r2 re2 q2
        | bad => rw [q2] at h; exact h
      | false => exact h w1 σ x1 r1 ((re.kill ks).ext x1)
    | exc x S1 => rw [q] at h; exact fun w1 c d x1 r1 q1 => h w1 σ c d x1 r1 ((re.kill ks).ext x1) q1
    | bad => rw [q] at h; exact h
end
end VM
end
section
set_option Elab.async false
set_option linter.all false
set_option maxRecDepth 100000
set_option maxHeartbeats 4000000
set_option autoImplicit false
/-! Comprehensions, displays, calls of defs. -/
namespace VM
open PySem PySem.Spec PyProof.Rows L2

/-- no exception is wished for -/
abbrev W0 : WX := fun _ _ _ _ => False
section
variable {K : PySem.W.Frag} {w w1 w2 : Wd} {S : Store}
/-- a thing on the side, not yet told -/
structure Side (K : PySem.W.Frag) (w0 w : Wd) (D : Addr) (acc : List A) (vs : List V) : Prop where
  ext : Ext w0 w
  at_ : w.H D = some (.lst vs)
  new : w0.H D = none
  nm : D ∉ w.m
  nf : w.F D = none
  ra : RAs K w.F w.m acc vs
theorem Side.start {D : Addr} (r : Rel K w S) (h : w.H D = none) : Rel K ⟨w.F, w.m, upd w.H D (.lst [])⟩ S ∧ Side K w ⟨w.F, w.m, upd w.H D (.lst [])⟩ D [] [] := by
  have hF : w.F D = none := by
    cases q : w.F D with
    | none => rfl
    | some u => rcases r.fz _ _ q with z | ⟨o, z⟩ <;> (rw [h] at z; cases z)
  have hm : D ∉ w.m := fun z => (r.out z).2 h
  have ex : Ext w ⟨w.F, w.m, upd w.H D (.lst [])⟩ := by
    refine ⟨fun _ _ h => h, ⟨[], by simp⟩, fun p o q _ => ?_, fun _ h => .inl h, fun _ h => .inl h, fun p q => ?_⟩
    · show upd w.H D _ p = _
      rw [upd_ne (ne_of_none q h)]; exact q
    · show upd w.H D _ p ≠ none
      by_cases e : p = D
      · subst e; rw [upd_same]; simp
      · rw [upd_ne e]; exact q
  refine ⟨⟨fun p u q => ?_, r.nd, r.ln, fun n o q => ?_⟩, ex, upd_same, h, hm, hF, .nil⟩
  · have hp : p ≠ D := fun z => by subst z; rw [show w.F p = _ from hF] at q; cases q
    rcases r.fz _ _ q with z | ⟨o, z⟩
    · exact .inl (by show upd w.H D _ p = _; rw [upd_ne hp]; exact z)
    · exact .inr ⟨o, by show upd w.H D _ p = _; rw [upd_ne hp]; exact z⟩
  · obtain ⟨p, h1, h2, h3⟩ := r.ob n o q
    have hp : p ≠ D := fun z => hm (z ▸ List.mem_of_getElem? h1)
    exact ⟨p, h1, h2, h3.move ex (upd_ne hp)⟩
/-- behind a move of the world -/
theorem Side.go {D : Addr} {acc : List A} {vs : List V} (s : Side K w w1 D acc vs) (e : Ext w1 w2) : Side K w w2 D acc vs := by
  refine ⟨s.ext.trans e, e.keep _ _ s.at_ s.nm, s.new, fun z => ?_, ?_, s.ra.ext e⟩
  · rcases e.mn _ z with z | z
    · exact s.nm z
    · rw [s.at_] at z; cases z
  · cases q : w2.F D with
    | none => rfl
    | some u =>
      rcases e.fn D (by rw [q]; simp) with z | z
      · exact absurd s.nf z
      · rw [s.at_] at z; cases z
/-- the thing grows -/
theorem Side.put {D : Addr} {acc acc' : List A} {vs vs' : List V} (s : Side K w w1 D acc vs) (r : Rel K w1 S) (ra : RAs K w1.F w1.m acc' vs') :
    Rel K ⟨w1.F, w1.m, upd w1.H D (.lst vs')⟩ S ∧ Side K w ⟨w1.F, w1.m, upd w1.H D (.lst vs')⟩ D acc' vs' := by
  have fzd : ∀ p u, w1.F p = some u → p ≠ D := fun p u q z => by subst z; rw [s.nf] at q; cases q
  refine ⟨⟨fun p u q => ?_, r.nd, r.ln, fun n o q => ?_⟩, ⟨s.ext.fr, s.ext.mp, fun p o q hm => ?_, s.ext.fn, s.ext.mn, fun p q => ?_⟩, upd_same, s.new, s.nm, s.nf, ra⟩
  · have hp := fzd p u q
    rcases r.fz _ _ q with z | ⟨o, z⟩
    · exact .inl (by show upd w1.H D _ p = _; rw [upd_ne hp]; exact z)
    · exact .inr ⟨o, by show upd w1.H D _ p = _; rw [upd_ne hp]; exact z⟩
  · obtain ⟨p, h1, h2, h3⟩ := r.ob n o q
    have hp : p ≠ D := fun z => s.nm (z ▸ List.mem_of_getElem? h1)
    refine ⟨p, h1, h2, ?_⟩
    have e2 : upd w1.H D (.lst vs') p = w1.H p := upd_ne hp
    cases o with
    | lst xs => obtain ⟨us, z1, z2⟩ := h3; exact ⟨us, e2.trans z1, z2⟩
    | dic xs => obtain ⟨us, z1, z2⟩ := h3; exact ⟨us, e2.trans z1, z2⟩
    | ins c fs => obtain ⟨dx, us, z1, z2⟩ := h3; exact ⟨dx, us, e2.trans z1, z2⟩
    | dead => show upd w1.H D (.lst vs') p ≠ none; rw [e2]; exact h3
  · show upd w1.H D _ p = _
    rw [upd_ne (ne_of_none q s.new)]; exact s.ext.keep p o q hm
  · show upd w1.H D _ p ≠ none
    by_cases e : p = D
    · subst e; rw [upd_same]; simp
    · rw [upd_ne e]; exact s.ext.mono p q
/-- the thing is told, frozen -/
theorem Side.fin {D : Addr} {acc : List A} {vs : List V} (s : Side K w w1 D acc vs) (r : Rel K w1 S) :
    Rel K ⟨upd w1.F D (.lst vs), w1.m, w1.H⟩ S ∧ Ext w ⟨upd w1.F D (.lst vs), w1.m, w1.H⟩ ∧ RA K (upd w1.F D (.lst vs)) w1.m (.lst acc) (.ref D) := by
  have fr : ∀ p u, w1.F p = some u → upd w1.F D (.lst vs) p = some u := fun p u q => by rw [upd_ne (ne_of_none q s.nf)]; exact q
  refine ⟨⟨fun p u q => ?_, r.nd, r.ln, fun n o q => ?_⟩, ⟨fun p u q => fr p u (s.ext.fr p u q), s.ext.mp, s.ext.keep, fun p q => ?_, s.ext.mn, s.ext.mono⟩, .lst (.inl upd_same) (s.ra.mono fr ⟨[], by simp⟩)⟩
  · have q : upd w1.F D (.lst vs) p = some u := q
    by_cases e : p = D
    · subst e; rw [upd_same] at q; cases q; exact .inl s.at_
    · rw [upd_ne e] at q; exact r.fz p u q
  · obtain ⟨p, h1, h2, h3⟩ := r.ob n o q
    have hp : p ≠ D := fun z => s.nm (z ▸ List.mem_of_getElem? h1)
    refine ⟨p, h1, (by show upd w1.F D _ p = none; rw [upd_ne hp]; exact h2), ?_⟩
    cases o with
    | lst xs => obtain ⟨us, z1, z2⟩ := h3; exact ⟨us, z1, z2.mono fr ⟨[], by simp⟩⟩
    | dic xs => obtain ⟨us, z1, z2⟩ := h3; exact ⟨us, z1, z2.mono fr ⟨[], by simp⟩⟩
    | ins c fs => obtain ⟨dx, us, z1, z2⟩ := h3; exact ⟨dx, us, z1, z2.mono fr ⟨[], by simp⟩⟩
    | dead => exact h3
  · have q : upd w1.F D (.lst vs) p ≠ none := q
    by_cases e : p = D
    · subst e; exact .inr s.new
    · rw [upd_ne e] at q; exact s.ext.fn p q
end

/-- stores at some places alone -/
def Only (vs : List Nat) (σ σ2 : SV) : Prop := σ2.length = σ.length ∧ ∀ j, j ∉ vs → σ2[j]? = σ[j]?
theorem Only.refl {vs : List Nat} {σ : SV} : Only vs σ σ := ⟨rfl, fun _ _ => rfl⟩
theorem Only.trans {vs : List Nat} {σ σ2 σ3 : SV} (a : Only vs σ σ2) (b : Only vs σ2 σ3) : Only vs σ σ3 := ⟨b.1.trans a.1, fun j h => (b.2 j h).trans (a.2 j h)⟩
theorem Only.set {vs : List Nat} {σ : SV} {i : Nat} {v : Option V} (h : i ∈ vs) : Only vs σ (σ.set i v) := ⟨by simp, fun j hj => List.getElem?_set_ne fun z => hj (by rw [← z]; exact h)⟩
theorem wipe_get {vs : List Nat} : ∀ {σ : SV} {j : Nat}, (L2.wipe σ vs)[j]? = if j ∈ vs then (if j < σ.length then some none else none) else σ[j]? := by
  induction vs with
  | nil => intro σ j; simp [L2.wipe]
  | cons k ks ih =>
    intro σ j
    show ((L2.wipe σ ks).set k none)[j]? = _
    rw [List.getElem?_set, L2.wipe_length]
    by_cases h : k = j
    · subst h
      simp
    · rw [if_neg h, ih]
      have : (j ∈ k :: ks) ↔ (j ∈ ks) := by simp [Ne.symm h]
      by_cases h2 : j ∈ ks
      · rw [if_pos h2, if_pos (this.mpr h2)]
      · rw [if_neg h2, if_neg (fun z => h2 (this.mp z))]
theorem Only.wipe {vs : List Nat} {σ σ2 : SV} (h : Only vs (L2.wipe σ vs) σ2) : L2.wipe σ2 vs = L2.wipe σ vs := by
  have hl : σ2.length = σ.length := by rw [h.1, L2.wipe_length]
  refine List.ext_getElem? fun j => ?_
  rw [wipe_get, wipe_get]
  by_cases hj : j ∈ vs
  · rw [if_pos hj, if_pos hj, hl]
  · rw [if_neg hj, if_neg hj, h.2 j hj, wipe_get, if_neg hj]
def tGw (K : PySem.W.Frag) (W : WX) (vs : List Nat) (g : CG) : TG := fun v σ H Q => ∃ w e S a, w.H = H ∧ Rel K w S ∧ RE K w.F w.m e σ ∧ RA K w.F w.m a v ∧ PoS K W w (g a e S) { nx := fun σ2 H2 => Only vs σ σ2 → Q σ2 H2, rt := fun _ _ => False }
def tGsw (K : PySem.W.Frag) (W : WX) (vs : List Nat) (g : List CG) : TGs := fun v σ H Q => ∃ w e S a, w.H = H ∧ Rel K w S ∧ RE K w.F w.m e σ ∧ RAs K w.F w.m a v ∧ PoS K W w (gsq g a e S) { nx := fun σ2 H2 => Only vs σ σ2 → Q σ2 H2, rt := fun _ _ => False }

section
variable {X : Cx} {W : WX} {e : Expr} {es : List Expr} {pos : Pos} {vs : List Nat}
theorem gw_name (i : Nat) {x : Str} (hv : i ∈ vs) (hN : X.N.Nodup) (hi : X.N[i]? = some x := by rfl) (hx : Loc X.env.scope x := by first | exact .inl rfl | exact .inr rfl) (hf : X.fn x = true ∨ X.env.scope.names.lookup x = some .local := by first | exact .inl rfl | exact .inr rfl | assumption) :
    PG X (.Name x pos) (tGw X.K W vs (gN i)) := PG.weak (pg_name (i := i) hN hi hx hf) fun v σ H Q ⟨w, e, S, a, eH, r, re, ra, h⟩ => by
  subst eH
  exact h w _ (Ext.refl w) r (re.set ra i) (Only.set hv)
theorem gsw_nil : PGs X [] (tGsw X.K W vs []) := PGs.weak pgs_nil fun v σ H Q ⟨w, e, S, a, eH, r, re, ra, h⟩ => by
  subst eH
  cases ra with
  | nil => exact ⟨rfl, h w σ (Ext.refl w) r re Only.refl⟩
  | cons _ _ => exact h.elim
theorem gsw_cons {g : CG} {gs : List CG} (h1 : PG X e (tGw X.K W vs g)) (h2 : PGs X es (tGsw X.K W vs gs)) (hs : (assignEach (e :: es) X.env).map (·.2) = assign e X.env :: (assignEach es X.env).map (·.2) := by rfl) :
    PGs X (e :: es) (tGsw X.K W vs (g :: gs)) := PGs.weak (pgs_cons h1 h2 hs) fun v σ H Q ⟨w, e, S, a, eH, r, re, ra, h⟩ => by
  cases ra with
  | nil => exact h.elim
  | @cons x u xs us r1 r2 =>
    refine ⟨u, us, rfl, w, e, S, x, eH, r, re, r1, ?_⟩
    unfold gsq at h
    cases q : g x e S with
    | nx e' S' =>
      rw [q] at h
      refine fun w' σ' e1 q1 q2 ho => ⟨w', e', S', xs, rfl, q1, q2, r2.ext e1, ?_⟩
      have h' : PoS X.K W w' (gsq gs xs e' S') { nx := fun σ2 H2 => Only vs σ σ2 → Q σ2 H2, rt := fun _ _ => False } := PoS.ext e1 h
      clear h
      generalize gsq gs xs e' S' = out at h' ⊢
      cases out with
      | nx _ _ => exact fun w2 σ2 e2 r2 re2 ho2 => h' w2 σ2 e2 r2 re2 (ho.trans ho2)
      | _ => exact h'
    | rt _ _ => rw [q] at h; exact h
    | bk _ _ => rw [q] at h; exact h
    | ct _ _ => rw [q] at h; exact h
    | exc _ _ _ => rw [q] at h; exact h
    | bad => rw [q] at h; exact h
theorem gw_tup {is : List Nat} {k : Nat} (hc : X.calm = true) (h : PGs X es (tGsw X.K W vs (is.map gN))) (hl : es.length = (is.map gN).length := by rfl) (hn : (assignEach es X.env).length = es.length := by rfl) (hst : (assignEach es X.env).findIdx? (·.1) = none := by rfl) :
    PG X (.Tuple es k pos) (tGw X.K W vs (gT (is.map gN))) := by
  refine PG.weak (pg_tup hc h hn hst) fun v σ H Q ⟨w, e, S, a, eH, r, re, ra, h⟩ => ?_
  subst eH
  cases a with
  | tup xs =>
    cases ra with
    | @tup _ p vs h1 h2 =>
      have hl' : xs.length = (is.map gN).length := by
        by_cases z : xs.length = (is.map gN).length
        · exact z
        · have h : PoS X.K W w (gsq (is.map gN) xs e S) _ := h
          rw [gsq_names is xs e S z] at h
          exact h.elim
      exact ⟨p, vs, rfl, r.sqT h1, by rw [← h2.length, hl', hl], w, e, S, xs, rfl, r, re, h2, h⟩
  | _ => exact h.elim
/-- the loop of a comprehension -/
theorem walk_lc {K : PySem.W.Frag} {J : It} {xs : List A} {ok : Wd → Prop} (Wk : Walker K J xs ok) {g : CG} {t : CB} {el : C} {vs : List Nat} {w : Wd} {e0 : Slots} {σ : SV} {S : Store} {D : Addr} {Q : VK}
    (r : Rel K w S) (re : RE K w.F w.m e0 (L2.wipe σ vs)) (hk : ok w) (hD : w.H D = none) (hq : Po K W (rA K) w σ (finL (lcL g t el e0 xs [] S)) Q) :
    ∃ Wf : Nat → Nat → Hp → Prop, (∃ m, Wf 0 m (upd w.H D (.lst []))) ∧ ∀ i m H, Wf i m H →
      (J.stop i H ∧ Q (.ref D) H) ∨ (J.go i H ∧ ∃ Nx : Hp → Prop, (∀ H', Nx H' → ∃ m', m' < m ∧ Wf (i + 1) m' H') ∧ ∀ x H', J.yld i H x H' → tGw K W0 vs g x (L2.wipe σ vs) H' fun σ2 H2 => L2.wipe σ2 vs = L2.wipe σ vs ∧ tB K W0 t σ2 H2 fun b H3 =>
        if b = true then tC K W0 el σ2 H3 fun y H4 => ∃ acc, H4 D = some (.lst acc) ∧ acc.length < sizeLine ∧ Nx (upd H4 D (.lst (acc ++ [y]))) else Nx H3) := by
  obtain ⟨r0, s0⟩ := Side.start (K := K) r hD
  refine ⟨fun i m H => m = xs.length - i ∧ i ≤ xs.length ∧ ∃ w1 S1 acc us, w1.H = H ∧ Rel K w1 S1 ∧ RE K w1.F w1.m e0 (L2.wipe σ vs) ∧ ok w1 ∧ Side K w w1 D acc us ∧ Po K W (rA K) w σ (finL (lcL g t el e0 (xs.drop i) acc S1)) Q,
    ⟨xs.length, by simp, Nat.zero_le _, _, S, [], [], rfl, r0, re, Wk.keep _ _ s0.ext.grow hk, s0, by simpa using hq⟩, ?_⟩
  rintro i m H ⟨rfl, hi, w1, S1, acc, us, rfl, r1, re1, hk1, s1, h1⟩
  by_cases hlt : i < xs.length
  · obtain ⟨g1, g2⟩ := Wk.go i w1 S1 r1 hk1 hlt
    refine .inr ⟨g1, fun H' => ∃ w2 S2 acc us, w2.H = H' ∧ Rel K w2 S2 ∧ RE K w2.F w2.m e0 (L2.wipe σ vs) ∧ ok w2 ∧ Side K w w2 D acc us ∧ Po K W (rA K) w σ (finL (lcL g t el e0 (xs.drop (i + 1)) acc S2)) Q,
      fun H' z => ⟨xs.length - (i + 1), by omega, rfl, hlt, z⟩, fun x H' y => ?_⟩
    obtain ⟨rfl, a, ha, ra⟩ := g2 x H' y
    have hd : xs.drop i = a :: xs.drop (i + 1) := by
      rw [List.drop_eq_getElem_cons hlt]
      rw [List.getElem?_eq_getElem hlt] at ha
      cases ha; rfl
    rw [hd] at h1
    refine ⟨w1, e0, S1, a, rfl, r1, re1, ra, ?_⟩
    unfold lcL at h1
    cases q : g a e0 S1 with
    | nx e1 S2 =>
      intro w2 σ2 x2 r2 re2 ho
      refine ⟨ho.wipe, w2, e1, S2, rfl, r2, re2, ?_⟩
      cases q2 : t e1 S2 with
      | ok b S3 =>
        intro w3 v x3 r3 q3
        cases (show b = v from q3)
        cases b with
        | true =>
          rw [if_pos rfl]
          refine ⟨w3, e1, S3, rfl, r3, re2.ext x3, ?_⟩
          cases q4 : el e1 S3 with
          | ok y S4 =>
            have q5 : turnC g t el e0 a S1 = .ok (some y) S4 := by unfold turnC; rw [q]; simp only; rw [q2]; simp only; rw [q4]
            rw [q5] at h1
            have h1 : Po K W (rA K) w σ (finL (if acc.length < 16777216 then lcL g t el e0 (xs.drop (i + 1)) (acc ++ [y]) S4 else .bad)) Q := h1
            intro w4 v4 x4 r4 q6
            have s4 := s1.go ((x2.trans x3).trans x4)
            have hl : us.length = acc.length := s4.ra.length.symm
            by_cases hz : acc.length < 16777216
            · rw [if_pos hz] at h1
              have r5 := s4.put (acc' := acc ++ [y]) (vs' := us ++ [v4]) r4 (s4.ra.app (.cons q6 .nil))
              have re4 : RE K w4.F w4.m e0 (L2.wipe σ vs) := ((re1.ext x2).ext x3).ext x4
              exact ⟨us, s4.at_, by rw [hl, sizeLine_eq]; exact hz, _, S4, _, _, rfl, r5.1, re4, Wk.keep _ ⟨w4.F, w4.m, upd w4.H D (.lst (us ++ [v4]))⟩ (show Grow w1 _ from ⟨((x2.trans x3).trans x4).fr, ((x2.trans x3).trans x4).mp⟩) hk1, r5.2, h1⟩
            · rw [if_neg hz] at h1; exact h1.elim
          | exc _ _ =>
            have q5 : turnC g t el e0 a S1 = .bad := by unfold turnC; rw [q]; simp only; rw [q2]; simp only; rw [q4]
            rw [q5] at h1; exact h1.elim
          | bad =>
            have q5 : turnC g t el e0 a S1 = .bad := by unfold turnC; rw [q]; simp only; rw [q2]; simp only; rw [q4]
            rw [q5] at h1; exact h1.elim
        | false =>
          rw [if_neg Bool.false_ne_true]
          have q5 : turnC g t el e0 a S1 = .ok none S3 := by unfold turnC; rw [q]; simp only; rw [q2]
          rw [q5] at h1
          exact ⟨w3, S3, acc, us, rfl, r3, (re1.ext x2).ext x3, Wk.keep _ _ (x2.trans x3).grow hk1, s1.go (x2.trans x3), h1⟩
      | exc _ _ =>
        have q5 : turnC g t el e0 a S1 = .bad := by unfold turnC; rw [q]; simp only; rw [q2]
        rw [q5] at h1; exact h1.elim
      | bad =>
        have q5 : turnC g t el e0 a S1 = .bad := by unfold turnC; rw [q]; simp only; rw [q2]
        rw [q5] at h1; exact h1.elim
    | rt _ _ =>
      have q5 : turnC g t el e0 a S1 = .bad := by unfold turnC; rw [q]
      rw [q5] at h1
      exact h1.elim
    | bk _ _ =>
      have q5 : turnC g t el e0 a S1 = .bad := by unfold turnC; rw [q]
      rw [q5] at h1
      exact h1.elim
    | ct _ _ =>
      have q5 : turnC g t el e0 a S1 = .bad := by unfold turnC; rw [q]
      rw [q5] at h1
      exact h1.elim
    | exc _ _ _ =>
      have q5 : turnC g t el e0 a S1 = .bad := by unfold turnC; rw [q]
      rw [q5] at h1
      exact h1.elim
    | bad =>
      have q5 : turnC g t el e0 a S1 = .bad := by unfold turnC; rw [q]
      rw [q5] at h1
      exact h1.elim
  · have ei : i = xs.length := by omega
    subst ei
    rw [List.drop_length] at h1
    refine .inl ⟨Wk.stop w1 S1 r1 hk1, ?_⟩
    obtain ⟨rf, ef, af⟩ := s1.fin r1
    exact h1 ⟨upd w1.F D (.lst us), w1.m, w1.H⟩ (.ref D) ef rf af
theorem e_lc {elt tg iter : Expr} {ifs : List Expr} {scope : Scope} {own : List (Str × Nat)} {wi : TI} {it : CL} {g : CG} {t : CB} {el : C} (hc : X.calm = true) (hN : X.N.Nodup) (hi : PI X tg iter wi) (hs : Src X W wi it) (ok : BlkOk X.N X.env.scope scope own)
    (hg : ∀ (s : Shared) (H : Hp) (C : Addr) (cl : List (Str × Addr)) (fp : List Addr), PG (X.blk s H scope (compEnvC scope cl C X.env) fp) tg (tGw X.K W0 (own.map (·.2)) g)) (ht : ∀ (s : Shared) (H : Hp) (C : Addr) (cl : List (Str × Addr)) (fp : List Addr), PTs (X.blk s H scope (compEnvC scope cl C X.env) fp) ifs (tB X.K W0 t))
    (he : ∀ (s : Shared) (H : Hp) (C : Addr) (cl : List (Str × Addr)) (fp : List Addr), PE (X.blk s H scope (compEnvC scope cl C X.env) fp) elt (tC X.K W0 el)) (hf : ∀ x, foldedSetIterable iter X.env x = pure x := by intro _; rfl) :
    PE X (.ListComp elt [⟨tg, iter, ifs, 0⟩] scope pos) (tC X.K W (cLc it (own.map (·.2)) g t el)) := by
  refine PE.weak (pe_lc hc hN hi ok hg ht he hf) fun σ H Q ⟨w, e, S, eH, r, re, h⟩ => ?_
  subst eH
  refine hs.run w e S σ _ r re (fun xs S' q w' J okw x1 r1 re1 hk Wk => ?_) (fun x S' q w' c d x1 r1 rx => ?_) fun q => ?_
  · intro D hD
    have h' : Po X.K W (rA X.K) w σ (finL (lcL g t el (kill (own.map (·.2)) e) xs [] S')) Q := by
      have h2 : Po X.K W (rA X.K) w σ (cLc it (own.map (·.2)) g t el e S) Q := h
      unfold cLc at h2
      rw [bnd_ok q] at h2
      exact h2
    exact walk_lc Wk r1 (re1.wipe _) hk hD (h'.ext x1)
  · have h2 : Po X.K W (rA X.K) w σ (cLc it (own.map (·.2)) g t el e S) Q := h
    unfold cLc at h2
    rw [bnd_exc q] at h2
    exact h2 w' c d x1 r1 rx
  · have h2 : Po X.K W (rA X.K) w σ (cLc it (own.map (·.2)) g t el e S) Q := h
    unfold cLc at h2
    rw [bnd_bad q] at h2
    exact h2
theorem x_setLc (i : Nat) {y : Str} {py : Pos} {elt tg iter : Expr} {ifs : List Expr} {scope : Scope} {own : List (Str × Nat)} {wi : TI} {it : CL} {g : CG} {t : CB} {el : C} {spos : Pos} (hc : X.calm = true) (hN : X.N.Nodup) (hy : X.N[i]? = some y) (hyl : X.env.scope.names.lookup y = some .local)
    (hsw : swapsWith (.ListComp elt [⟨tg, iter, ifs, 0⟩] scope pos) (some (.Name y py)) spos.line X.env = pure true) (hi : PI X tg iter wi) (hs : Src X W wi it) (ok : BlkOk X.N X.env.scope scope own)
    (hg : ∀ (s : Shared) (H : Hp) (C : Addr) (cl : List (Str × Addr)) (fp : List Addr), PG (X.blk s H scope (compEnvC scope cl C X.env) fp) tg (tGw X.K W0 (own.map (·.2)) g)) (ht : ∀ (s : Shared) (H : Hp) (C : Addr) (cl : List (Str × Addr)) (fp : List Addr), PTs (X.blk s H scope (compEnvC scope cl C X.env) fp) ifs (tB X.K W0 t))
    (he : ∀ (s : Shared) (H : Hp) (C : Addr) (cl : List (Str × Addr)) (fp : List Addr), PE (X.blk s H scope (compEnvC scope cl C X.env) fp) elt (tC X.K W0 el)) (hf : ∀ x, foldedSetIterable iter X.env x = pure x := by intro _; rfl) :
    PS X (.Assign [.Name y py] (.ListComp elt [⟨tg, iter, ifs, 0⟩] scope pos) spos) (tS X.K W (sSet i (cLc it (own.map (·.2)) g t el))) := by
  refine PS.weak (ps_setLc hc hN hy hyl hsw hi ok hg ht he hf) fun D σ H ⟨w, e, S, eH, r, re, h⟩ => ?_
  subst eH
  have h0 : Po X.K W (rA X.K) w σ (cLc it (own.map (·.2)) g t el e S) (fun x H1 => gName i x σ H1 D.nx) := PoS.of (k := fun a S' => .nx (e.set i (some a)) S') re h fun a S' w' v e1 r1 q1 h1 => h1 w' _ (Ext.refl _) r1 ((re.ext e1).set q1 i)
  refine hs.run w e S σ _ r re (fun xs S' q w' J okw x1 r1 re1 hk Wk => ?_) (fun x S' q w' c d x1 r1 rx => ?_) fun q => ?_
  · intro D' hD
    unfold cLc at h0
    rw [bnd_ok q] at h0
    exact walk_lc Wk r1 (re1.wipe _) hk hD (h0.ext x1)
  · unfold cLc at h0
    rw [bnd_exc q] at h0
    exact h0 w' c d x1 r1 rx
  · unfold cLc at h0
    rw [bnd_bad q] at h0
    exact h0
end
end VM
end
section
set_option Elab.async false
set_option linter.all false
set_option maxRecDepth 100000
set_option maxHeartbeats 4000000
set_option autoImplicit false
/-! Defs: promises by results, calls, pure defs. -/
namespace VM
open PySem PySem.Spec PyProof.Rows L2

/-! ### values without handles -/
mutual
def closed : A → Bool
  | .ref _ => false
  | .tup xs => closedL xs
  | .lst xs => closedL xs
  | .dic kvs => closedK kvs
  | .non => true
  | .bl _ => true
  | .int _ => true
  | .str _ => true
  | .fn _ => true
def closedL : List A → Bool
  | [] => true
  | x :: xs => closed x && closedL xs
def closedK : List (Key × A) → Bool
  | [] => true
  | (_, x) :: xs => closed x && closedK xs
end
def closedF (fs : List (Str × A)) : Bool := fs.all fun p => closed p.2
def optMap (f : A → Option A) : List A → Option (List A)
  | [] => some []
  | x :: xs => match f x, optMap f xs with
    | some y, some ys => some (y :: ys)
    | _, _ => none
def optMapK (f : A → Option A) : List (Key × A) → Option (List (Key × A))
  | [] => some []
  | (k, x) :: xs => match f x, optMapK f xs with
    | some y, some ys => some ((k, y) :: ys)
    | _, _ => none
/-- the value, all that has a handle frozen -/
def fz : Nat → Store → A → Option A
  | 0, _, a => if closed a then some a else none
  | n + 1, S, a => if closed a then some a else match a with
    | .ref k => (match S[k]? with
      | some (.lst xs) => (optMap (fz n S) xs).map .lst
      | some (.dic kvs) => (optMapK (fz n S) kvs).map .dic
      | _ => none)
    | .tup xs => (optMap (fz n S) xs).map .tup
    | .lst xs => (optMap (fz n S) xs).map .lst
    | .dic kvs => (optMapK (fz n S) kvs).map .dic
    | _ => none
/-- a def that neither reads nor changes what has a handle -/
def pureF (f : List A → M A) : List A → M A := fun as S => if closedL as then (match f as [] with
  | .ok a S' => (match fz 4 S' a with
    | some b => .ok b S
    | none => .bad)
  | .exc x _ => if closedF x.fs then .exc x S else .bad
  | .bad => .bad) else .bad
def runBody (n : Nat) (c : CS) : List A → M A := fun as S => match c (as.map some ++ List.replicate (n - as.length) none) S with
  | .nx _ S' => .ok .non S'
  | .rt a S' => .ok a S'
  | .exc x _ S' => .exc x S'
  | _ => .bad

section
variable {K : PySem.W.Frag} {F F' : Hp} {m m' : List Addr}
mutual
theorem RA.closed (hF : ∀ p u, F p = some u → F' p = some u) : ∀ {a : A} {v : V}, RA K F m a v → VM.closed a = true → RA K F' m' a v
  | _, _, .non, _ => .non
  | _, _, .bl b, _ => .bl b
  | _, _, .int i, _ => .int i
  | _, _, .str s, _ => .str s
  | _, _, .tup h r, c => .tup (h.imp (hF _ _) id) (RAs.closed hF r (by simpa [VM.closed] using c))
  | _, _, .lst h r, c => .lst (h.imp (hF _ _) id) (RAs.closed hF r (by simpa [VM.closed] using c))
  | _, _, .dic h r, c => .dic (hF _ _ h) (RAk.closed hF r (by simpa [VM.closed] using c))
  | _, _, .ref h, c => by simp [VM.closed] at c
  | _, _, .fn x, _ => .fn x
theorem RAs.closed (hF : ∀ p u, F p = some u → F' p = some u) : ∀ {a : List A} {v : List V}, RAs K F m a v → closedL a = true → RAs K F' m' a v
  | _, _, .nil, _ => .nil
  | _, _, .cons h r, c => by
    simp only [closedL, Bool.and_eq_true] at c
    exact .cons (RA.closed hF h c.1) (RAs.closed hF r c.2)
theorem RAk.closed (hF : ∀ p u, F p = some u → F' p = some u) : ∀ {a : List (Key × A)} {v : List (Key × V)}, RAk K F m a v → closedK a = true → RAk K F' m' a v
  | _, _, .nil, _ => .nil
  | _, _, .cons h r, c => by
    simp only [closedK, Bool.and_eq_true] at c
    exact .cons (RA.closed hF h c.1) (RAk.closed hF r c.2)
end
theorem RAf.closed (hF : ∀ p u, F p = some u → F' p = some u) {a : List (Str × A)} {v : List (Str × V)} (h : RAf K F m a v) (c : closedF a = true) : RAf K F' m' a v := by
  induction h with
  | nil => exact .nil
  | cons h _ ih =>
    simp only [closedF, List.all_cons, Bool.and_eq_true] at c
    exact .cons (RA.closed hF h c.1) (ih c.2)
end
section
variable {K : PySem.W.Frag} {w w' : Wd} {S S' : Store}
/-- the world of a caller behind a pure def -/
def frozenF (w' : Wd) : Hp := fun p => if p ∈ w'.m then (match w'.H p with
  | some (.lst l) => some (.lst l)
  | some (.dK l) => some (.dK l)
  | _ => none) else w'.F p
theorem frozenF_ge (r : Rel K w' S') : ∀ p u, w'.F p = some u → frozenF w' p = some u := fun p u h => by
  unfold frozenF
  have : p ∉ w'.m := fun z => by rw [(r.out z).1] at h; cases h
  rw [if_neg this]; exact h
theorem fz_ok (r : Rel K w' S') : ∀ (n : Nat) (a b : A) (v : V) (m2 : List Addr), fz n S' a = some b → RA K w'.F w'.m a v → RA K (frozenF w') m2 b v
  | 0, a, b, v, m2, h, ra => by
    unfold fz at h
    split at h
    · rename_i c; cases h; exact ra.closed (frozenF_ge r) c
    · cases h
  | n + 1, a, b, v, m2, h, ra => by
    have all : ∀ (xs ys : List A) (vs : List V), optMap (fz n S') xs = some ys → RAs K w'.F w'.m xs vs → RAs K (frozenF w') m2 ys vs := by
      intro xs
      induction xs with
      | nil => intro ys vs h r; cases r; simp [optMap] at h; subst h; exact .nil
      | cons x xs ih =>
        intro ys vs h r'
        cases r' with
        | cons h1 h2 =>
          unfold optMap at h
          split at h
          · rename_i y ys' e1 e2
            cases h
            exact .cons (fz_ok r n _ _ _ m2 e1 h1) (ih _ _ e2 h2)
          · cases h
    have allK : ∀ (xs ys : List (Key × A)) (vs : List (Key × V)), optMapK (fz n S') xs = some ys → RAk K w'.F w'.m xs vs → RAk K (frozenF w') m2 ys vs := by
      intro xs
      induction xs with
      | nil => intro ys vs h r; cases r; simp [optMapK] at h; subst h; exact .nil
      | cons x xs ih =>
        intro ys vs h r'
        cases r' with
        | cons h1 h2 =>
          unfold optMapK at h
          split at h
          · rename_i y ys' e1 e2
            cases h
            exact .cons (fz_ok r n _ _ _ m2 e1 h1) (ih _ _ e2 h2)
          · cases h
    unfold fz at h
    split at h
    · rename_i c; cases h; exact ra.closed (frozenF_ge r) c
    · cases a with
      | ref k =>
        simp only at h
        cases ra with
        | @ref _ p hp =>
          have hm : p ∈ w'.m := List.mem_of_getElem? hp
          have hk : k < S'.length := by rw [← r.ln]; exact (List.getElem?_eq_some_iff.mp hp).1
          obtain ⟨q, hq, _, ho⟩ := r.ob k S'[k] (List.getElem?_eq_getElem hk)
          rw [hp] at hq; cases hq
          rw [List.getElem?_eq_getElem hk] at h
          cases e : S'[k] with
          | lst xs =>
            rw [e] at h ho
            obtain ⟨vs, h1, h2⟩ := ho
            simp only [Option.map_eq_some_iff] at h
            obtain ⟨ys, e1, rfl⟩ := h
            exact .lst (.inl (by unfold frozenF; rw [if_pos hm, h1])) (all _ _ _ e1 h2)
          | dic xs =>
            rw [e] at h ho
            obtain ⟨vs, h1, h2⟩ := ho
            simp only [Option.map_eq_some_iff] at h
            obtain ⟨ys, e1, rfl⟩ := h
            exact .dic (by unfold frozenF; rw [if_pos hm, h1]) (allK _ _ _ e1 h2)
          | ins _ _ => rw [e] at h; cases h
          | dead => rw [e] at h; cases h
      | tup xs =>
        simp only [Option.map_eq_some_iff] at h
        obtain ⟨ys, e1, rfl⟩ := h
        cases ra with
        | tup h1 h2 => exact .tup (h1.imp (frozenF_ge r _ _) id) (all _ _ _ e1 h2)
      | lst xs =>
        simp only [Option.map_eq_some_iff] at h
        obtain ⟨ys, e1, rfl⟩ := h
        cases ra with
        | lst h1 h2 => exact .lst (h1.imp (frozenF_ge r _ _) id) (all _ _ _ e1 h2)
      | dic xs =>
        simp only [Option.map_eq_some_iff] at h
        obtain ⟨ys, e1, rfl⟩ := h
        cases ra with
        | dic h1 h2 => exact .dic (frozenF_ge r _ _ h1) (allK _ _ _ e1 h2)
      | _ => simp at h
/-- back from a pure def -/
theorem back (r0 : Rel K w S) (e : Ext ⟨w.F, [], w.H⟩ w') (r : Rel K w' S') : Ext w ⟨frozenF w', w.m, w'.H⟩ ∧ Rel K ⟨frozenF w', w.m, w'.H⟩ S := by
  have ge := frozenF_ge r
  have keep : ∀ p o, w.H p = some o → w'.H p = some o := fun p o h => e.keep p o h (by simp)
  have fr : ∀ p u, w.F p = some u → frozenF w' p = some u := fun p u h => ge p u (e.fr p u h)
  have fnn : ∀ p, frozenF w' p ≠ none → w.F p ≠ none ∨ w.H p = none := fun p h => by
    by_cases z : p ∈ w'.m
    · rcases e.mn p z with z | z
      · cases z
      · exact .inr z
    · unfold frozenF at h
      rw [if_neg z] at h
      exact e.fn p h
  refine ⟨⟨fr, ⟨[], by simp⟩, fun p o h _ => keep p o h, fnn, fun p h => .inl h, e.mono⟩, ⟨fun p u h => ?_, r0.nd, r0.ln, fun n o h => ?_⟩⟩
  · have h : frozenF w' p = some u := h
    unfold frozenF at h
    split at h
    · split at h
      · rename_i l q; cases h; exact .inl q
      · rename_i l q; cases h; exact .inl q
      · cases h
    · exact r.fz p u h
  · obtain ⟨p, h1, h2, h3⟩ := r0.ob n o h
    have hp := r0.out (List.mem_of_getElem? h1)
    refine ⟨p, h1, ?_, ?_⟩
    · show frozenF w' p = none
      cases q : frozenF w' p with
      | none => rfl
      | some u =>
        rcases fnn p (by rw [q]; simp) with z | z
        · exact absurd hp.1 z
        · exact absurd z hp.2
    · have hk : w'.H p = w.H p := by
        cases q : w.H p with
        | none => exact absurd q hp.2
        | some o => exact keep p o q
      cases o with
      | lst xs => obtain ⟨us, z1, z2⟩ := h3; exact ⟨us, hk.trans z1, z2.mono fr ⟨[], by simp⟩⟩
      | dic xs => obtain ⟨us, z1, z2⟩ := h3; exact ⟨us, hk.trans z1, z2.mono fr ⟨[], by simp⟩⟩
      | ins c fs => obtain ⟨dx, us, z1, z2⟩ := h3; exact ⟨dx, us, hk.trans z1, z2.mono fr ⟨[], by simp⟩⟩
      | dead => show w'.H p ≠ none; rw [hk]; exact h3
end

/-! ### promises -/
def spOf (K : PySem.W.Frag) (n : Nat) (f : List A → M A) : Sp := fun vs H Q E => vs.length = n ∧ ∃ w S as, w.H = H ∧ Rel K w S ∧ RAs K w.F w.m as vs ∧ Po K (fun c d _ H' => E c d H') (rA K) w [] (f as S) Q
theorem spOf_pure {K : PySem.W.Frag} {n : Nat} {f : List A → M A} {vs : List V} {H : Hp} {Q : VK} {E : XK} (h : spOf K n (pureF f) vs H Q E) : spOf K n f vs H Q E := by
  obtain ⟨hn, w, S, as, rfl, r, ra, h⟩ := h
  unfold pureF at h
  split at h
  · rename_i c
    refine ⟨hn, ⟨w.F, [], w.H⟩, [], as, rfl, ⟨r.fz, List.nodup_nil, rfl, fun n o h => by simp at h⟩, ra.closed (fun _ _ h => h) c, ?_⟩
    cases q : f as [] with
    | ok a S' =>
      rw [q] at h
      simp only at h
      cases q2 : fz 4 S' a with
      | some b =>
        rw [q2] at h
        intro w' v e' r' ra'
        obtain ⟨ex, rr⟩ := back r e' r'
        exact h ⟨frozenF w', w.m, w'.H⟩ v ex rr (fz_ok r' 4 a b v w.m q2 ra')
      | none => rw [q2] at h; exact h.elim
    | exc x S' =>
      rw [q] at h
      simp only at h
      split at h
      · rename_i cx
        intro w' c d e' r' rx
        obtain ⟨ex, rr⟩ := back r e' r'
        refine h ⟨frozenF w', w.m, w'.H⟩ c d ex rr ⟨rx.1, ?_⟩
        cases d with
        | none => exact rx.2
        | some d => obtain ⟨fs, h1, h2⟩ := rx.2; exact ⟨fs, h1, h2.closed (frozenF_ge r') cx⟩
      · exact h.elim
    | bad => rw [q] at h; exact h.elim
  · exact h.elim
structure Has (P : Program) (w : World) (K : PySem.W.Frag) (mg : Str → Option Value) (base : Heap) (x : Str) (n k : Nat) (f : List A → M A) : Prop where
  gl : mg x = some (.ref (He.ga K x))
  kp : PySem.W.keepIn K (.ref (He.ga K x)) = true
  fn : ∃ fd ps, Binds K fd ps [] ∧ ps.length = n ∧ FnOk P w K mg base (L2.CX P w) k (He.ga K x) fd ps (spOf K n f)
section
variable {P : Program} {w : World} {K : PySem.W.Frag} {mg : Str → Option Value} {base : Heap} {x : Str} {n k : Nat} {f : List A → M A}
theorem Has.pureD (h : Has P w K mg base x n k f) : Has P w K mg base x n k (pureF f) := ⟨h.gl, h.kp, by
  obtain ⟨fd, ps, b, l, F⟩ := h.fn
  exact ⟨fd, ps, b, l, F.imp fun vs H Q E q => spOf_pure q⟩⟩
theorem Has.up {j : Nat} (h : Has P w K mg base x n k f) (hj : k ≤ j) : Has P w K mg base x n j f := ⟨h.gl, h.kp, by
  obtain ⟨fd, ps, b, l, F⟩ := h.fn
  exact ⟨fd, ps, b, l, F.mono hj⟩⟩
end

/-! ### the context of a def -/
structure Cok (X : Cx) (W : WX) (k : Nat) : Prop where
  tk : Takes X W
  hp : PassesOwn (model X.prog X.w) X.A X.env X.xe
  calm : X.calm = true
  hr : Room k X.A
theorem Cok.blk {X : Cx} {W : WX} {k : Nat} (O : Cok X W k) (s : Shared) (H : Hp) (scope : Scope) (cenv : PySem.Env) (fp : List Addr) : Cok (X.blk s H scope cenv fp) W0 k :=
  ⟨takes0, PassesOwn.never, O.calm, O.hr⟩
theorem Cok.hu {X : Cx} {W : WX} {k : Nat} (O : Cok X W k) : X.A.units + 64 < cLine := by have := O.hr.un; omega
section
variable {X : Cx} {W : WX} {k j n : Nat} {x : Str} {p pos : Pos} {e : Expr} {es : List Expr} {cl : CL} {f : List A → M A}
theorem Po.call {K : PySem.W.Frag} {W : WX} {w : Wd} {σ : SV} {out : R A} {Q : VK} (h : Po K W (rA K) w σ out Q) : Po K (fun c d _ H' => WE W σ c d H') (rA K) w [] out Q := by
  cases out with
  | ok _ _ => exact h
  | exc _ _ => exact h
  | bad => exact h
theorem Po.uncall {K : PySem.W.Frag} {W : WX} {w : Wd} {σ : SV} {out : R A} {Q : VK} (h : Po K (fun c d _ H' => WE W σ c d H') (rA K) w [] out Q) : Po K W (rA K) w σ out Q := by
  cases out with
  | ok _ _ => exact h
  | exc _ _ => exact h
  | bad => exact h
theorem RAs_n {K : PySem.W.Frag} {F : Hp} {m : List Addr} {as : List A} {vs : List V} (r : RAs K F m as vs) : vs.length = as.length := r.length.symm
/-- a def is called (so many values are written) -/
theorem e_call (O : Cok X W k) (h : Has X.prog X.w X.K X.mg X.base x n j f) (hj : j ≤ k) (ha : PA X (e :: es) (tL X.K W cl)) (hn : ∀ (e : Slots) (S S' : Store) (as : List A), cl e S = .ok as S' → as.length = n) (hg : Gl X x := by rfl)
    (hdb : (x == ("__debug__" : Str)) = false := by decide) (he : starEach (e :: es) X.env = (false, eval e X.env) :: starEach es X.env := by rfl) (hpl : (backTo pos (starEach es X.env)).any (·.1) = false := by rfl) :
    PE X (.Call (.Name x p) (e :: es) [] pos) (tC X.K W (cApp f cl)) := by
  obtain ⟨fd, ps, b, l, F⟩ := h.fn
  refine PE.weak (pe_callS (E := WE W) (F.mono hj) O.hr hg h.gl h.kp b (fun σ => passAt O.tk σ) ha hdb he hpl) fun σ H Q ⟨w, e, S, eH, r, re, hq⟩ => ?_
  refine ⟨w, e, S, eH, r, re, ?_⟩
  have hq : Po X.K W (rA X.K) w σ (bnd (cl e) f S) Q := hq
  cases q : cl e S with
  | ok as S' =>
    rw [bnd_ok q] at hq
    intro w' vs e' r' ra
    exact ⟨by rw [RAs_n ra]; exact hn e S S' as q, w', S', as, rfl, r', ra, (hq.ext e').call⟩
  | exc x S' => rw [bnd_exc q] at hq; exact hq
  | bad => rw [bnd_bad q] at hq; exact hq
end
/-- how many values an argument list gives -/
theorem nil_n (e : Slots) (S S' : Store) (as : List A) (h : cNil e S = .ok as S') : as.length = 0 := by cases h; rfl
theorem cons_n {n : Nat} {c : C} {cl : CL} (h : ∀ (e : Slots) (S S' : Store) (as : List A), cl e S = .ok as S' → as.length = n) (e : Slots) (S S' : Store) (as : List A) (q : cCons c cl e S = .ok as S') : as.length = n + 1 := by
  unfold cCons at q
  cases q1 : c e S with
  | ok a S1 =>
    rw [bnd_ok q1] at q
    cases q2 : cl e S1 with
    | ok ys S2 =>
      rw [bnd_ok q2] at q
      cases q
      simp [h e S1 _ ys q2]
    | exc _ _ => rw [bnd_exc q2] at q; cases q
    | bad => rw [bnd_bad q2] at q; cases q
  | exc _ _ => rw [bnd_exc q1] at q; cases q
  | bad => rw [bnd_bad q1] at q; cases q

/-! ### a def by its body -/
section
variable {P : Program} {w : World} {K : PySem.W.Frag} {mg : Str → Option Value} {base : Heap} {x : Str} {k : Nat}
theorem RE_start {F : Hp} {m : List Addr} {as : List A} {vs : List V} (r : RAs K F m as vs) (n : Nat) : RE K F m (as.map some ++ List.replicate (n - as.length) none) (vs.map some ++ List.replicate (n - vs.length) none) := by
  have rep : ∀ j, RE K F m (List.replicate j none) (List.replicate j none) := fun j => by
    induction j with
    | zero => exact .nil
    | succ j ih => rw [List.replicate_succ, List.replicate_succ]; exact .no ih
  rw [r.length]
  generalize n - vs.length = j
  induction as generalizing vs with
  | nil => cases r; exact rep j
  | cons a as ih => cases r with | cons h t => exact .yes h (ih t)
theorem body_rd {N : List Str} {c : CS} {n : Nat} {vs : List V} {H : Hp} {Q : VK} {E : XK} (h : spOf K n (runBody N.length c) vs H Q E) : tS K (fun c d _ H => E c d H) c { nx := fun _ H' => Q .non H', rt := Q } (start N vs) H := by
  obtain ⟨hn, w, S, as, rfl, r, ra, h⟩ := h
  refine ⟨w, _, S, rfl, r, RE_start ra N.length, ?_⟩
  unfold runBody at h
  generalize c (as.map some ++ List.replicate (N.length - as.length) none) S = out at h
  cases out with
  | nx e S' => exact fun w' σ' e' r' _ => h w' .non e' r' .non
  | rt a S' => exact fun w' v e' r' q => h w' v e' r' q
  | exc x e S' => exact fun w' σ' c d e' r' _ q => h w' c d e' r' q
  | _ => exact h.elim
theorem Has.of {N ps : List Str} {st : Stmt} {fd : FuncData} {c : CS} (F : FunD K x x (defArgs st) (defBody st) (defScope st) [] [] (He.ga K x) fd) (hm : mg x = some (.ref (He.ga K x))) (S : FnScope N ps (defScope st))
    (hb : ∀ (kV doc pm : Value) (an : Option Addr) (cdv ct : Value) (us : List Value), us.length = ps.length → bindArgs (PySem.W.fnOf x x (defArgs st) (defBody st) (defScope st) .none kV doc pm an cdv ct) ⟨us, []⟩ = pure (ps.zip us))
    (d : ∀ (cdv : Value) (A : Around) (outer : List PySem.Env) (s : Shared) (H : Hp) (E : XK), Cok (cxOf (L2.CX P w) P w K mg base N x (defScope st) (He.ga K x) cdv A outer s H E) (fun c d _ H => E c d H) k →
      PSs (cxOf (L2.CX P w) P w K mg base N x (defScope st) (He.ga K x) cdv A outer s H E) (defBody st) (tS K (fun c d _ H => E c d H) c)) :
    Has P w K mg base x ps.length (k + 1) (runBody N.length c) := by
  refine ⟨hm, F.kp, fd, ps, FunD.bindsN F hb, rfl, F.ok S (fun vs H Q E h => h.1) fun cdv A outer s H vs Q E hr h => ?_⟩
  exact ⟨_, d cdv A outer s H E ⟨takes_of rfl rfl rfl rfl, passes_of rfl, rfl, hr⟩, body_rd h⟩
/-- a def of which nothing is asked -/
theorem Has.none {ps : List Str} {st : Stmt} {fd : FuncData} (F : FunD K x x (defArgs st) (defBody st) (defScope st) [] [] (He.ga K x) fd) (hm : mg x = some (.ref (He.ga K x)))
    (hb : ∀ (kV doc pm : Value) (an : Option Addr) (cdv ct : Value) (us : List Value), us.length = ps.length → bindArgs (PySem.W.fnOf x x (defArgs st) (defBody st) (defScope st) .none kV doc pm an cdv ct) ⟨us, []⟩ = pure (ps.zip us)) :
    Has P w K mg base x ps.length k (fun _ => bad) := by
  refine ⟨hm, F.kp, fd, ps, FunD.bindsN F hb, rfl, ⟨fun vs H Q E h => h.1, fun A outer s H args us vs Q E hr e0 hb' r h => ?_⟩⟩
  obtain ⟨_, w, S, as, rfl, r, ra, h⟩ := h
  exact h.elim
end
end VM
end
section
set_option Elab.async false
set_option linter.all false
set_option maxRecDepth 100000
set_option maxHeartbeats 4000000
set_option autoImplicit false
/-! Operations by values. -/
namespace VM
open PySem PySem.Spec PyProof.Rows L2

abbrev LINE : Nat := 16777216
theorem line_eq : sizeLine = LINE := sizeLine_eq
/-- what a handle holds as a list -/
def lstAt (S : Store) (a : A) : Option (List A) := match a with
  | .lst xs => some xs
  | .ref n => (match S[n]? with
    | some (.lst xs) => some xs
    | _ => none)
  | _ => none
theorem lstAt_ok {K : PySem.W.Frag} {w : Wd} {S : Store} {a : A} {v : V} {xs : List A} (r : Rel K w S) (ra : RA K w.F w.m a v) (h : lstAt S a = some xs) : ∃ p vs, v = .ref p ∧ SqL K w.H p vs ∧ RAs K w.F w.m xs vs := by
  cases a with
  | lst ys =>
    cases h
    cases ra with
    | @lst _ p vs h1 h2 => exact ⟨p, vs, rfl, r.sqL h1, h2⟩
  | ref n =>
    cases ra with
    | @ref _ p hp =>
      replace h : (match S[n]? with | some (.lst xs) => some xs | _ => none) = some xs := h
      have hn : n < S.length := by rw [← r.ln]; exact (List.getElem?_eq_some_iff.mp hp).1
      obtain ⟨q, hq, _, ho⟩ := r.ob n S[n] (List.getElem?_eq_getElem hn)
      rw [hp] at hq; cases hq
      rw [List.getElem?_eq_getElem hn] at h
      cases e : S[n] with
      | lst ys =>
        rw [e] at h ho
        cases h
        obtain ⟨vs, h1, h2⟩ := ho
        exact ⟨p, vs, rfl, SqL.of h1, h2⟩
      | dic _ => rw [e] at h; cases h
      | ins _ _ => rw [e] at h; cases h
      | dead => rw [e] at h; cases h
  | _ => cases h
def dicAt (S : Store) (a : A) : Option (List (Key × A)) := match a with
  | .dic xs => some xs
  | .ref n => (match S[n]? with
    | some (.dic xs) => some xs
    | _ => none)
  | _ => none
theorem dicAt_ok {K : PySem.W.Frag} {w : Wd} {S : Store} {a : A} {v : V} {xs : List (Key × A)} (r : Rel K w S) (ra : RA K w.F w.m a v) (h : dicAt S a = some xs) : ∃ p vs, v = .ref p ∧ Rd w.H p (.dK vs) ∧ RAk K w.F w.m xs vs := by
  cases a with
  | dic ys =>
    cases h
    cases ra with
    | @dic _ p vs h1 h2 => exact ⟨p, vs, rfl, r.fz _ _ h1, h2⟩
  | ref n =>
    cases ra with
    | @ref _ p hp =>
      replace h : (match S[n]? with | some (.dic xs) => some xs | _ => none) = some xs := h
      have hn : n < S.length := by rw [← r.ln]; exact (List.getElem?_eq_some_iff.mp hp).1
      obtain ⟨q, hq, _, ho⟩ := r.ob n S[n] (List.getElem?_eq_getElem hn)
      rw [hp] at hq; cases hq
      rw [List.getElem?_eq_getElem hn] at h
      cases e : S[n] with
      | dic ys =>
        rw [e] at h ho
        cases h
        obtain ⟨vs, h1, h2⟩ := ho
        exact ⟨p, vs, rfl, .inl h1, h2⟩
      | lst _ => rw [e] at h; cases h
      | ins _ _ => rw [e] at h; cases h
      | dead => rw [e] at h; cases h
  | _ => cases h
/-- a key -/
def keyOf : A → Option Key
  | .int i => some (.inl i)
  | .str x => some (.inr x)
  | _ => none
theorem keyOf_ok {K : PySem.W.Frag} {F : Hp} {m : List Addr} {a : A} {v : V} {k : Key} (ra : RA K F m a v) (h : keyOf a = some k) : v = kV k := by
  cases a with
  | int i => cases h; cases ra; rfl
  | str i => cases h; cases ra; rfl
  | _ => cases h
def getK (kvs : List (Key × A)) (k : Key) : Option A := (kvs.find? fun kv => decide (kv.1 = k)).map (·.2)
theorem getK_ok {K : PySem.W.Frag} {F : Hp} {m : List Addr} {xs : List (Key × A)} {vs : List (Key × V)} (r : RAk K F m xs vs) (k : Key) : match getK xs k with
    | some a => ∃ v, valV vs k = some v ∧ RA K F m a v
    | none => valV vs k = none := by
  induction xs generalizing vs with
  | nil => cases r; rfl
  | cons x xs ih =>
    cases r with
    | @cons j a v _ us h1 h2 =>
      by_cases e : j = k
      · have e1 : getK ((j, a) :: xs) k = some a := by simp [getK, List.find?_cons, e]
        rw [e1]
        exact ⟨v, valV_pos (p := (j, v)) e, h1⟩
      · have e1 : getK ((j, a) :: xs) k = getK xs k := by simp [getK, List.find?_cons, e]
        rw [e1, valV_neg (p := (j, v)) e]
        exact ih h2

/-! ### arithmetic -/
def rAddA (K : PySem.W.Frag) : R2 := fun x y H Q => rI0 (fun i j => .int (i + j)) x y H Q ∨ (∃ i j, x = .str i ∧ y = .str j ∧ i.length + j.length ≤ sizeLine ∧ Q (.str (i ++ j)) H) ∨ rCatA K x y H Q ∨
  (∃ l b xs zs, x = .ref l ∧ y = .ref b ∧ SqL K H l xs ∧ SqL K H b zs ∧ xs.length + zs.length ≤ sizeLine ∧ ∀ p, H p = none → Q (.ref p) (upd H p (.lst (xs ++ zs))))
theorem op_catL {X : Cx} : OpR X (binaryOp .Add) (fun x y H Q => ∃ l b xs zs, x = .ref l ∧ y = .ref b ∧ SqL X.K H l xs ∧ SqL X.K H b zs ∧ xs.length + zs.length ≤ sizeLine ∧ ∀ p, H p = none → Q (.ref p) (upd H p (.lst (xs ++ zs)))) := by
  intro pins s σ H x y v u Q I rx ry h
  obtain ⟨l, b, xs, zs, rfl, rfl, hH, hB, hz, q⟩ := h
  cases rx
  cases ry
  obtain ⟨its, r, pl, hl⟩ := I.list hH
  obtain ⟨its2, r2, pl2, hl2⟩ := I.list hB
  obtain ⟨⟨cls, dd, data, sl⟩, n, e, hc, hd, hdt⟩ := pl
  obtain ⟨⟨cls2, dd2, data2, sl2⟩, n2, e2, hc2, hd2, hdt2⟩ := pl2
  simp only at hc hd hdt hc2 hd2 hdt2
  subst hc hd hdt hc2 hd2 hdt2
  have z1 := r.length
  have z2 := r2.length
  refine concat_meets ⟨_, e, rfl⟩ ⟨_, e2, rfl⟩ noFill_list_add seq_list_add PySem.F.slot_list_add PySem.F.entry_list_add (PySem.F.args_list_add_2 _ _) (list_addW l b its.toArray its2.toArray n n2 none none sl sl2 (by rw [List.size_toArray, List.size_toArray]; omega)) ⟨e, e2, ?_⟩
  have ea : its.toArray ++ its2.toArray = (its ++ its2).toArray := by simp
  rw [ea]
  exact ⟨.ref _, _, I.lnew (t' := s.toks) (r.append r2) (by rw [List.length_append]; omega), rfl, q _ I.fresh⟩
theorem or_add {X : Cx} : OpR X (binaryOp .Add) (rAddA X.K) := op_add.or (op_add_str.or (op_catA.or op_catL))
def opAdd (a b : A) : M A := fun S => match a, b with
  | .int i, .int j => .ok (.int (i + j)) S
  | .str i, .str j => if i.length + j.length ≤ LINE then .ok (.str (i ++ j)) S else .bad
  | .tup xs, .tup ys => if xs.length + ys.length ≤ LINE then .ok (.tup (xs ++ ys)) S else .bad
  | a, b => match lstAt S a, lstAt S b with
    | some xs, some ys => if xs.length + ys.length ≤ LINE then .ok (.lst (xs ++ ys)) S else .bad
    | _, _ => .bad
section
variable {K : PySem.W.Frag} {W : WX} {w : Wd} {S : Store} {σ : SV} {Q : VK}
theorem Po.frzL {xs : List A} {vs : List V} (r : Rel K w S) (ra : RAs K w.F w.m xs vs) (h : Po K W (rA K) w σ (.ok (.lst xs) S) Q) (p : Addr) (hp : w.H p = none) : Q (.ref p) (upd w.H p (.lst vs)) :=
  h (w.frz p (.lst vs)) (.ref p) (Wd.frz_ext r hp) (Wd.frz_rel r hp) (.lst (.inl (by show upd w.F p _ p = _; exact upd_same)) (ra.ext (Wd.frz_ext r hp)))
theorem Po.frzT {xs : List A} {vs : List V} (r : Rel K w S) (ra : RAs K w.F w.m xs vs) (h : Po K W (rA K) w σ (.ok (.tup xs) S) Q) (p : Addr) (hp : w.H p = none) : Q (.ref p) (upd w.H p (.tup vs)) :=
  h (w.frz p (.tup vs)) (.ref p) (Wd.frz_ext r hp) (Wd.frz_rel r hp) (.tup (.inl (by show upd w.F p _ p = _; exact upd_same)) (ra.ext (Wd.frz_ext r hp)))
theorem Po.frzD {xs : List (Key × A)} {vs : List (Key × V)} (r : Rel K w S) (ra : RAk K w.F w.m xs vs) (h : Po K W (rA K) w σ (.ok (.dic xs) S) Q) (p : Addr) (hp : w.H p = none) : Q (.ref p) (upd w.H p (.dK vs)) :=
  h (w.frz p (.dK vs)) (.ref p) (Wd.frz_ext r hp) (Wd.frz_rel r hp) (.dic (by show upd w.F p _ p = _; exact upd_same) (ra.mono (Wd.frz_ext r hp).fr (Wd.frz_ext r hp).mp))
theorem Po.newL {xs : List A} {vs : List V} (r : Rel K w S) (ra : RAs K w.F w.m xs vs) (h : Po K W (rA K) w σ (.ok (.ref S.length) (S ++ [.lst xs])) Q) (p : Addr) (hp : w.H p = none) : Q (.ref p) (upd w.H p (.lst vs)) := by
  have ex := Wd.new_ext (u := .lst vs) r hp
  refine h (w.new p (.lst vs)) (.ref p) ex (Wd.new_rel r hp ⟨vs, by show upd w.H p _ p = _; exact upd_same, ra.ext ex⟩) (.ref ?_)
  show (w.m ++ [p])[S.length]? = _
  rw [List.getElem?_append_right (by rw [r.ln]; omega), r.ln]; simp
theorem Po.newD {xs : List (Key × A)} {vs : List (Key × V)} (r : Rel K w S) (ra : RAk K w.F w.m xs vs) (h : Po K W (rA K) w σ (.ok (.ref S.length) (S ++ [.dic xs])) Q) (p : Addr) (hp : w.H p = none) : Q (.ref p) (upd w.H p (.dK vs)) := by
  have ex := Wd.new_ext (u := .dK vs) r hp
  refine h (w.new p (.dK vs)) (.ref p) ex (Wd.new_rel r hp ⟨vs, by show upd w.H p _ p = _; exact upd_same, ra.mono ex.fr ex.mp⟩) (.ref ?_)
  show (w.m ++ [p])[S.length]? = _
  rw [List.getElem?_append_right (by rw [r.ln]; omega), r.ln]; simp
end
theorem f_add {K : PySem.W.Frag} : Op2 K (rAddA K) opAdd := by
  intro w S σ W a b x y Q r ra rb h
  have lists : (match lstAt S a, lstAt S b with
    | some xs, some ys => if xs.length + ys.length ≤ LINE then Po K W (rA K) w σ (.ok (.lst (xs ++ ys)) S) Q else False
    | _, _ => False) → rAddA K x y w.H Q := by
    intro h
    cases e1 : lstAt S a with
    | none => rw [e1] at h; exact h.elim
    | some xs =>
      cases e2 : lstAt S b with
      | none => rw [e1, e2] at h; exact h.elim
      | some ys =>
        rw [e1, e2] at h
        simp only at h
        split at h
        · rename_i hz
          obtain ⟨p, vs, rfl, s1, r1⟩ := lstAt_ok r ra e1
          obtain ⟨q, us, rfl, s2, r2⟩ := lstAt_ok r rb e2
          exact .inr (.inr (.inr ⟨p, q, vs, us, rfl, rfl, s1, s2, by rw [← r1.length, ← r2.length, line_eq]; exact hz, fun p hp => Po.frzL r (r1.app r2) h p hp⟩))
        · exact h.elim
  cases a with
  | int i =>
    cases b with
    | int j => cases ra; cases rb; exact .inl ⟨i, j, rfl, rfl, Po.now h r (.int _)⟩
    | _ => exact h.elim
  | str i =>
    cases b with
    | str j =>
      cases ra; cases rb
      unfold opAdd at h
      simp only at h
      split at h
      · rename_i hz; exact .inr (.inl ⟨i, j, rfl, rfl, by rw [line_eq]; exact hz, Po.now h r (.str _)⟩)
      · exact h.elim
    | _ => exact h.elim
  | tup xs =>
    cases b with
    | tup ys =>
      unfold opAdd at h
      simp only at h
      split at h
      · rename_i hz
        cases ra with
        | @tup _ p vs h1 h2 =>
          cases rb with
          | @tup _ q us h3 h4 =>
            refine .inr (.inr (.inl ⟨p, q, vs, us, rfl, rfl, r.sqT h1, r.sqT h3, by rw [← h2.length, ← h4.length, line_eq]; exact hz, fun e => ?_, fun _ e => ?_, fun _ _ p' hp => Po.frzT r (h2.app h4) h p' hp⟩))
            · subst e; cases h2; exact Po.now h r (.tup h3 h4)
            · subst e; cases h4; exact Po.now (a := .tup (xs ++ [])) h r (by rw [List.append_nil]; exact .tup h1 h2)
      · exact h.elim
    | _ => exact lists (by simp [lstAt]; exact h)
  | lst xs =>
    apply lists
    unfold opAdd at h
    cases b <;> (simp only at h; revert h; cases lstAt S _ <;> cases lstAt S _ <;> simp only [] <;> first | exact fun h => h.elim | (intro h; split at h <;> simp_all [Po]))
  | ref n =>
    apply lists
    unfold opAdd at h
    cases b <;> (simp only at h; revert h; cases lstAt S _ <;> cases lstAt S _ <;> simp only [] <;> first | exact fun h => h.elim | (intro h; split at h <;> simp_all [Po]))
  | _ => cases b <;> exact h.elim
end VM
end
section
set_option Elab.async false
set_option linter.all false
set_option maxRecDepth 100000
set_option maxHeartbeats 4000000
set_option autoImplicit false
/-! More operations by values. -/
namespace VM
open PySem PySem.Spec PyProof.Rows L2

/-! ### ints -/
def opII (c : Int → Int → Bool) (g : Int → Int → A) (a b : A) : M A := fun S => match a, b with
  | .int i, .int j => if c i j then .ok (g i j) S else .bad
  | _, _ => .bad
theorem f_II {K : PySem.W.Frag} {C : Int → Int → Prop} {c : Int → Int → Bool} {g : Int → Int → A} {gv : Int → Int → V} (hc : ∀ i j, c i j = true → C i j) (hg : ∀ F m i j, RA K F m (g i j) (gv i j)) : Op2 K (rI C gv) (opII c g) := by
  intro w S σ W a b x y Q r ra rb h
  cases a with
  | int i =>
    cases b with
    | int j =>
      cases ra; cases rb
      unfold opII at h
      simp only at h
      split at h
      · rename_i z; exact ⟨i, j, rfl, rfl, hc i j z, Po.now h r (hg _ _ i j)⟩
      · exact h.elim
    | _ => exact h.elim
  | _ => cases b <;> exact h.elim
theorem f_II0 {K : PySem.W.Frag} {g : Int → Int → A} {gv : Int → Int → V} (hg : ∀ F m i j, RA K F m (g i j) (gv i j)) : Op2 K (rI0 gv) (opII (fun _ _ => true) g) := by
  intro w S σ W a b x y Q r ra rb h
  cases a with
  | int i =>
    cases b with
    | int j => cases ra; cases rb; exact ⟨i, j, rfl, rfl, Po.now h r (hg _ _ i j)⟩
    | _ => exact h.elim
  | _ => cases b <;> exact h.elim
abbrev opSub : A → A → M A := opII (fun _ _ => true) fun i j => .int (i - j)
def cMul (i j : Int) : Bool := decide ((-(2 ^ 64) < i ∧ i < 2 ^ 64) ∨ (-(2 ^ 64) < j ∧ j < 2 ^ 64))
abbrev opMul : A → A → M A := opII cMul fun i j => .int (i * j)
def cDivN (i j : Int) : Bool := decide (j ≠ 0 ∧ j.natAbs < 1073741824)
abbrev opDiv : A → A → M A := opII cDivN fun i j => .int (i.fdiv j)
def cModN (i j : Int) : Bool := decide (j ≠ 0)
abbrev opMod : A → A → M A := opII cModN fun i j => .int (i.fmod j)
def cPow (i j : Int) : Bool := decide (0 ≤ j ∧ j ≤ 1000000 ∧ i.natAbs < 2 ^ 64)
abbrev opPow : A → A → M A := opII cPow fun i j => .int (i ^ j.toNat)
abbrev opLe : A → A → M A := opII (fun _ _ => true) fun i j => .bl (decide (i ≤ j))
abbrev opGt : A → A → M A := opII (fun _ _ => true) fun i j => .bl (decide (j < i))
abbrev opGe : A → A → M A := opII (fun _ _ => true) fun i j => .bl (decide (j ≤ i))
section
variable {K : PySem.W.Frag}
theorem f_sub : Op2 K (rI0 fun i j => .int (i - j)) opSub := f_II0 fun _ _ i j => .int _
theorem f_mul : Op2 K (rI CMul fun i j => .int (i * j)) opMul := f_II (fun i j h => by simpa [cMul, CMul] using h) fun _ _ i j => .int _
theorem f_div : Op2 K (rI CDivN fun i j => .int (i.fdiv j)) opDiv := f_II (fun i j h => by simpa [cDivN, CDivN] using h) fun _ _ i j => .int _
theorem f_mod : Op2 K (rI (fun _ j => j ≠ 0) fun i j => .int (i.fmod j)) opMod := f_II (fun i j h => of_decide_eq_true h) fun _ _ i j => .int _
theorem f_pow : Op2 K (rI CPow fun i j => .int (i ^ j.toNat)) opPow := f_II (fun i j h => by simpa [cPow, CPow] using h) fun _ _ i j => .int _
theorem f_le : Op2 K (rI0 fun i j => .bl (decide (i ≤ j))) opLe := f_II0 fun _ _ i j => .bl _
theorem f_gt : Op2 K (rI0 fun i j => .bl (decide (j < i))) opGt := f_II0 fun _ _ i j => .bl _
theorem f_ge : Op2 K (rI0 fun i j => .bl (decide (j ≤ i))) opGe := f_II0 fun _ _ i j => .bl _
end
def opNeg (a : A) : M A := fun S => match a with
  | .int i => .ok (.int (-i)) S
  | _ => .bad
theorem f_neg {K : PySem.W.Frag} : Op1 K (rU fun i => .int (-i)) opNeg := by
  intro w S σ W a x Q r ra h
  cases a with
  | int i => cases ra; exact ⟨i, rfl, Po.now h r (.int _)⟩
  | _ => exact h.elim
/-! ### order -/
def rLtA : R2 := fun x y H Q => rI0 (fun i j => .bl (decide (i < j))) x y H Q ∨ (∃ i j, x = .str i ∧ y = .str j ∧ Q (.bl (decide (i.cps.toList < j.cps.toList))) H)
theorem or_lt {X : Cx} : OpR X (compareOp .Lt) rLtA := op_lt.or op_lt_str
def opLt (a b : A) : M A := fun S => match a, b with
  | .int i, .int j => .ok (.bl (decide (i < j))) S
  | .str i, .str j => .ok (.bl (decide (i.cps.toList < j.cps.toList))) S
  | _, _ => .bad
theorem f_lt {K : PySem.W.Frag} : Op2 K rLtA opLt := by
  intro w S σ W a b x y Q r ra rb h
  cases a with
  | int i =>
    cases b with
    | int j => cases ra; cases rb; exact .inl ⟨i, j, rfl, rfl, Po.now h r (.bl _)⟩
    | _ => exact h.elim
  | str i =>
    cases b with
    | str j => cases ra; cases rb; exact .inr ⟨i, j, rfl, rfl, Po.now h r (.bl _)⟩
    | _ => exact h.elim
  | _ => cases b <;> exact h.elim
/-! ### is None -/
def isNon : A → Bool
  | .non => true
  | _ => false
theorem isNon_ok {K : PySem.W.Frag} {F : Hp} {m : List Addr} {a : A} {v : V} (r : RA K F m a v) : decide (v = .non) = isNon a := by
  cases r <;> rfl
def opIsN (a b : A) : M A := fun S => match b with
  | .non => .ok (.bl (isNon a)) S
  | _ => .bad
def opNotN (a b : A) : M A := fun S => match b with
  | .non => .ok (.bl (!isNon a)) S
  | _ => .bad
theorem f_isN {K : PySem.W.Frag} : Op2 K (fun x y H Q => y = .non ∧ Q (.bl (decide (x = .non))) H) opIsN := by
  intro w S σ W a b x y Q r ra rb h
  cases b with
  | non => cases rb; exact ⟨rfl, by rw [isNon_ok ra]; exact Po.now h r (.bl _)⟩
  | _ => exact h.elim
theorem f_notN {K : PySem.W.Frag} : Op2 K (fun x y H Q => y = .non ∧ Q (.bl (!decide (x = .non))) H) opNotN := by
  intro w S σ W a b x y Q r ra rb h
  cases b with
  | non => cases rb; exact ⟨rfl, by rw [isNon_ok ra]; exact Po.now h r (.bl _)⟩
  | _ => exact h.elim
/-! ### == -/
mutual
def toPy : A → Option PyData
  | .non => some .none
  | .bl b => some (.bool b)
  | .int i => some (.int i)
  | .str s => some (.str s)
  | .tup xs => (toPyL xs).map .tuple
  | .lst xs => (toPyL xs).map .list
  | .dic _ => none
  | .ref _ => none
  | .fn _ => none
def toPyL : List A → Option (List PyData)
  | [] => some []
  | x :: xs => match toPy x, toPyL xs with
    | some d, some ds => some (d :: ds)
    | _, _ => none
end
section
variable {K : PySem.W.Frag} {w : Wd} {S : Store}
mutual
theorem toPy_ok (r : Rel K w S) : ∀ (a : A) (v : V) (d : PyData), toPy a = some d → RA K w.F w.m a v → Dp K w.H v d
  | .non, v, d, h, ra => by cases h; cases ra; exact .non
  | .bl b, v, d, h, ra => by cases h; cases ra; exact .bl b
  | .int i, v, d, h, ra => by cases h; cases ra; exact .int i
  | .str s, v, d, h, ra => by cases h; cases ra; exact .str s
  | .tup xs, v, d, h, ra => by
    cases ra with
    | tup h1 h2 =>
      simp only [toPy, Option.map_eq_some_iff] at h
      obtain ⟨ds, e, rfl⟩ := h
      exact .tup (r.sqT h1) (toPyL_ok r xs _ ds e h2)
  | .lst xs, v, d, h, ra => by
    cases ra with
    | lst h1 h2 =>
      simp only [toPy, Option.map_eq_some_iff] at h
      obtain ⟨ds, e, rfl⟩ := h
      exact .lst (r.sqL h1) (toPyL_ok r xs _ ds e h2)
  | .dic _, v, d, h, ra => by cases h
  | .ref _, v, d, h, ra => by cases h
  | .fn _, v, d, h, ra => by cases h
theorem toPyL_ok (r : Rel K w S) : ∀ (a : List A) (v : List V) (d : List PyData), toPyL a = some d → RAs K w.F w.m a v → DpAll K w.H v d
  | [], v, d, h, ra => by cases h; cases ra; exact .nil
  | x :: xs, v, d, h, ra => by
    cases ra with
    | cons h1 h2 =>
      simp only [toPyL] at h
      split at h
      · rename_i d' ds e1 e2
        cases h
        exact .cons (toPy_ok r x _ d' e1 h1) (toPyL_ok r xs _ ds e2 h2)
      · cases h
end
end
/-- plain scalars -/
def scalA : A → A → Option Bool
  | .non, .non => some true | .non, .int _ => some false | .int _, .non => some false | .non, .bl _ => some false | .bl _, .non => some false | .non, .str _ => some false | .str _, .non => some false
  | .int i, .int j => some (decide (i = j)) | .bl i, .bl j => some (decide (i = j)) | .str i, .str j => some (decide (i = j))
  | .int _, .str _ => some false | .str _, .int _ => some false | .bl _, .str _ => some false | .str _, .bl _ => some false
  | _, _ => none
theorem scalA_ok {K : PySem.W.Frag} {F : Hp} {m : List Addr} {a b : A} {x y : V} {k : Bool} (ra : RA K F m a x) (rb : RA K F m b y) (h : scalA a b = some k) : scal x y = true ∧ decide (x = y) = k := by
  cases ra <;> cases rb <;> simp [scalA] at h <;> subst h <;> simp [scal]
def eqData (a b : A) : Option Bool := match toPy a, toPy b with
  | some d, some e => if SeqAt.shaped d && SeqAt.shaped e then some (PyData.eqv d e) else none
  | _, _ => none
def eqA (a b : A) : Option Bool := match scalA a b with
  | some k => some k
  | none => eqData a b
def opEq (a b : A) : M A := fun S => match eqA a b with
  | some k => .ok (.bl k) S
  | none => .bad
def opNe (a b : A) : M A := fun S => match eqA a b with
  | some k => .ok (.bl (!k)) S
  | none => .bad
def rEqA (K : PySem.W.Frag) : R2 := fun x y H Q => rEq x y H Q ∨ rEqD K x y H Q
def rNeA (K : PySem.W.Frag) : R2 := fun x y H Q => rNe x y H Q ∨ rNeD K x y H Q
theorem or_eq {X : Cx} {W : WX} {k : Nat} (O : Cok X W k) : OpR X (compareOp .Eq) (rEqA X.K) := op_eq.or (op_eqD O.hu)
theorem or_ne {X : Cx} {W : WX} {k : Nat} (O : Cok X W k) : OpR X (compareOp .NotEq) (rNeA X.K) := op_ne.or (op_neD O.hu)
theorem eqData_ok {K : PySem.W.Frag} {w : Wd} {S : Store} {a b : A} {x y : V} {k : Bool} (r : Rel K w S) (ra : RA K w.F w.m a x) (rb : RA K w.F w.m b y) (h : eqData a b = some k) :
    ∃ d e, Dp K w.H x d ∧ Dp K w.H y e ∧ SeqAt.shaped d = true ∧ SeqAt.shaped e = true ∧ PyData.eqv d e = k := by
  unfold eqData at h
  split at h
  · rename_i d e e1 e2
    split at h
    · rename_i z
      obtain ⟨z1, z2⟩ := Bool.and_eq_true_iff.mp z
      exact ⟨d, e, toPy_ok r a x d e1 ra, toPy_ok r b y e e2 rb, z1, z2, Option.some.inj h⟩
    · cases h
  · cases h
theorem f_eq {K : PySem.W.Frag} : Op2 K (rEqA K) opEq := by
  intro w S σ W a b x y Q r ra rb h
  unfold opEq eqA at h
  cases e : scalA a b with
  | some k =>
    rw [e] at h
    obtain ⟨h1, h2⟩ := scalA_ok ra rb e
    exact .inl ⟨h1, by rw [h2]; exact Po.now h r (.bl _)⟩
  | none =>
    rw [e] at h
    cases e2 : eqData a b with
    | none => simp only [e2] at h; exact h.elim
    | some k =>
      simp only [e2] at h
      obtain ⟨d, e, h1, h2, h3, h4, h5⟩ := eqData_ok r ra rb e2
      exact .inr ⟨d, e, h1, h2, h3, h4, by rw [h5]; exact Po.now h r (.bl _)⟩
theorem f_ne {K : PySem.W.Frag} : Op2 K (rNeA K) opNe := by
  intro w S σ W a b x y Q r ra rb h
  unfold opNe eqA at h
  cases e : scalA a b with
  | some k =>
    rw [e] at h
    obtain ⟨h1, h2⟩ := scalA_ok ra rb e
    exact .inl ⟨h1, by rw [h2]; exact Po.now h r (.bl _)⟩
  | none =>
    rw [e] at h
    cases e2 : eqData a b with
    | none => simp only [e2] at h; exact h.elim
    | some k =>
      simp only [e2] at h
      obtain ⟨d, e, h1, h2, h3, h4, h5⟩ := eqData_ok r ra rb e2
      exact .inr ⟨d, e, h1, h2, h3, h4, by rw [h5]; exact Po.now h r (.bl _)⟩
/-! ### in -/
def flatA : A → Bool
  | .non => true | .bl _ => true | .int _ => true | .str _ => true
  | _ => false
def vOf : A → V
  | .non => .non | .bl b => .bl b | .int i => .int i | .str s => .str s
  | _ => .non
theorem flat_ok {K : PySem.W.Frag} {F : Hp} {m : List Addr} {a : A} {v : V} (ra : RA K F m a v) (h : flatA a = true) : v = vOf a ∧ flatV v = true := by
  cases ra <;> first | exact ⟨rfl, rfl⟩ | cases h
theorem flats_ok {K : PySem.W.Frag} {F : Hp} {m : List Addr} {xs : List A} {vs : List V} (ra : RAs K F m xs vs) (h : xs.all flatA = true) : vs = xs.map vOf ∧ vs.all flatV = true := by
  induction xs generalizing vs with
  | nil => cases ra; exact ⟨rfl, rfl⟩
  | cons x xs ih =>
    cases ra with
    | cons h1 h2 =>
      simp only [List.all_cons, Bool.and_eq_true] at h
      obtain ⟨e1, e2⟩ := flat_ok h1 h.1
      obtain ⟨e3, e4⟩ := ih h2 h.2
      subst e1 e3
      exact ⟨rfl, by simp [e2, e4]⟩
/-- x in a written list | tuple of flat things -/
def inFlat (x : A) (xs : List A) : Bool := inV (vOf x) (xs.map vOf)
def inAny (S : Store) (a b : A) : Option Bool := match b with
  | .str j => (match a with
    | .str i => some (!(Builtin.Str.occurrences j i 0 j.length 1).isEmpty)
    | _ => none)
  | .tup xs => if flatA a && xs.all flatA then some (inFlat a xs) else none
  | .lst xs => if flatA a && xs.all flatA then some (inFlat a xs) else none
  | b => (match dicAt S b with
    | some kvs => (match keyOf a with
      | some k => some (getK kvs k).isSome
      | none => none)
    | none => (match lstAt S b with
      | some xs => if flatA a && xs.all flatA then some (inFlat a xs) else none
      | none => none))
def opIn (a b : A) : M A := fun S => match inAny S a b with
  | some k => .ok (.bl k) S
  | none => .bad
def opNotIn (a b : A) : M A := fun S => match inAny S a b with
  | some k => .ok (.bl (!k)) S
  | none => .bad
def rInA (K : PySem.W.Frag) (neg : Bool) : R2 := fun x y H Q => (∃ i j, x = .str i ∧ y = .str j ∧ Q (.bl (if neg then !(!(Builtin.Str.occurrences j i 0 j.length 1).isEmpty) else !(Builtin.Str.occurrences j i 0 j.length 1).isEmpty)) H) ∨ rIn K neg x y H Q ∨
  (∃ a o, y = .ref a ∧ DGet H a x o ∧ Q (.bl (if neg then !o.isSome else o.isSome)) H)
theorem or_in {X : Cx} {W : WX} {k : Nat} (O : Cok X W k) : OpR X (compareOp .In) (rInA X.K false) := by
  refine op_in_str.or (op_in_seq.or ?_)
  intro pins s σ H x y v u Q I rx ry h
  obtain ⟨a, o, rfl, g, q⟩ := h
  cases ry
  have := O.hu
  exact d_in (by omega) I g rx fun s' I' => ⟨.bl o.isSome, H, I', rfl, q⟩
theorem or_notIn {X : Cx} {W : WX} {k : Nat} (O : Cok X W k) : OpR X (compareOp .NotIn) (rInA X.K true) := by
  refine op_notin_str.or (op_notIn_seq.or ?_)
  intro pins s σ H x y v u Q I rx ry h
  obtain ⟨a, o, rfl, g, q⟩ := h
  cases ry
  have := O.hu
  exact d_notIn (by omega) I g rx fun s' I' => ⟨.bl (!o.isSome), H, I', rfl, q⟩
theorem getK_some {K : PySem.W.Frag} {F : Hp} {m : List Addr} {xs : List (Key × A)} {vs : List (Key × V)} (r : RAk K F m xs vs) (k : Key) : (valV vs k).isSome = (getK xs k).isSome := by
  have h := getK_ok r k
  cases e : getK xs k with
  | some a => rw [e] at h; obtain ⟨v, h1, _⟩ := h; rw [h1]; rfl
  | none => rw [e] at h; rw [h]; rfl
theorem inAny_ok {K : PySem.W.Frag} {w : Wd} {S : Store} {a b : A} {x y : V} {Q : VK} {k neg : Bool} (r : Rel K w S) (ra : RA K w.F w.m a x) (rb : RA K w.F w.m b y) (h : inAny S a b = some k) (q : Q (.bl (if neg then !k else k)) w.H) : rInA K neg x y w.H Q := by
  have seqs : ∀ (xs : List A) (p : Addr) (vs : List V), (SqL K w.H p vs ∨ SqT K w.H p vs) → RAs K w.F w.m xs vs → (if flatA a && xs.all flatA then some (inFlat a xs) else none) = some k → y = .ref p → rInA K neg x y w.H Q := by
    intro xs p vs sq rs h hy
    split at h
    · rename_i z
      obtain ⟨z1, z2⟩ := Bool.and_eq_true_iff.mp z
      obtain ⟨e1, e2⟩ := flat_ok ra z1
      obtain ⟨e3, e4⟩ := flats_ok rs z2
      cases h
      refine .inr (.inl ⟨p, vs, hy, sq, e2, e4, ?_⟩)
      rw [e1, e3]
      exact q
    · cases h
  have rest : ∀ (hb : ∀ xs, b ≠ .lst xs), (match dicAt S b with
    | some kvs => (match keyOf a with
      | some k => some (getK kvs k).isSome
      | none => none)
    | none => (match lstAt S b with
      | some xs => if flatA a && xs.all flatA then some (inFlat a xs) else none
      | none => none)) = some k → rInA K neg x y w.H Q := by
    intro _ h
    cases e : dicAt S b with
    | some kvs =>
      rw [e] at h
      obtain ⟨p, vs, hy, rdh, rk⟩ := dicAt_ok r rb e
      cases e2 : keyOf a with
      | none => rw [e2] at h; cases h
      | some ky =>
        rw [e2] at h
        cases h
        subst hy
        refine .inr (.inr ⟨p, valV vs ky, rfl, .inl ⟨vs, ky, rdh, keyOf_ok ra e2, rfl⟩, ?_⟩)
        rw [getK_some rk ky]
        exact q
    | none =>
      rw [e] at h
      cases e2 : lstAt S b with
      | none => rw [e2] at h; cases h
      | some xs =>
        rw [e2] at h
        obtain ⟨p, vs, hy, sq, rs⟩ := lstAt_ok r rb e2
        exact seqs xs p vs (.inl sq) rs h hy
  cases b with
  | str j =>
    cases rb
    cases a with
    | str i =>
      cases ra
      cases h
      exact .inl ⟨i, j, rfl, rfl, by cases neg <;> exact q⟩
    | _ => cases h
  | tup xs =>
    cases rb with
    | @tup _ p vs h1 h2 => exact seqs xs p vs (.inr (r.sqT h1)) h2 h rfl
  | lst xs =>
    cases rb with
    | @lst _ p vs h1 h2 => exact seqs xs p vs (.inl (r.sqL h1)) h2 h rfl
  | dic _ => exact rest (fun _ z => by cases z) h
  | ref _ => exact rest (fun _ z => by cases z) h
  | non => exact rest (fun _ z => by cases z) h
  | bl _ => exact rest (fun _ z => by cases z) h
  | int _ => exact rest (fun _ z => by cases z) h
  | fn _ => exact rest (fun _ z => by cases z) h
theorem f_in {K : PySem.W.Frag} : Op2 K (rInA K false) opIn := by
  intro w S σ W a b x y Q r ra rb h
  unfold opIn at h
  cases e : inAny S a b with
  | none => rw [e] at h; exact h.elim
  | some k => rw [e] at h; exact inAny_ok (neg := false) r ra rb e (Po.now h r (.bl _))
theorem f_notIn {K : PySem.W.Frag} : Op2 K (rInA K true) opNotIn := by
  intro w S σ W a b x y Q r ra rb h
  unfold opNotIn at h
  cases e : inAny S a b with
  | none => rw [e] at h; exact h.elim
  | some k => rw [e] at h; exact inAny_ok (neg := true) r ra rb e (Po.now h r (.bl _))
/-! ### subscripts -/
def ixInt (S : Store) (xs : List A) : A → R A
  | .int i => (match atI xs i with
    | some x => .ok x S
    | none => .bad)
  | _ => .bad
def ixRest (S : Store) (a b : A) : R A := match dicAt S a with
  | some kvs => (match keyOf b with
    | some k => (match getK kvs k with
      | some x => .ok x S
      | none => .bad)
    | none => .bad)
  | none => (match lstAt S a with
    | some xs => ixInt S xs b
    | none => .bad)
def opIx (a b : A) : M A := fun S => match a, b with
  | .tup xs, .int i => (match atI xs i with
    | some x => .ok x S
    | none => .bad)
  | .str s, .int i => if s.length ≤ LINE then (match atI s.cps.toList i with
    | some c => .ok (.str ⟨#[c]⟩) S
    | none => .bad) else .bad
  | a, b => ixRest S a b
def rIxA (K : PySem.W.Frag) : R2 := fun x y H Q => rIx K x y H Q ∨ (∃ a v, x = .ref a ∧ DGet H a y (some v) ∧ Q v H)
theorem ix_dic {X : Cx} (hu : X.A.units + 1 < cLine) : IxR X (fun x y H Q => ∃ a v, x = .ref a ∧ DGet H a y (some v) ∧ Q v H) := by
  intro value slice pins s σ H x y v u Q I rx ry h hs
  obtain ⟨a, z, rfl, g, q⟩ := h
  cases rx
  exact tail_any (dict_typeIs I g) PySem.F.slot_dict_getitem.lookup (d_getItem hu I g ry fun w' s3 I3 rw' => ⟨z, H, I3, rw', q⟩) hs
theorem or_ix {X : Cx} {W : WX} {k : Nat} (O : Cok X W k) : IxR X (rIxA X.K) := ix_seq.or (ix_dic (by have := O.hu; omega))
theorem atI_ok {K : PySem.W.Frag} {F : Hp} {m : List Addr} {xs : List A} {vs : List V} (r : RAs K F m xs vs) {i : Int} {a : A} (h : atI xs i = some a) : ∃ v, atI vs i = some v ∧ RA K F m a v := by
  unfold atI at h ⊢
  rw [← r.length]
  cases e : ixN xs.length i with
  | none => rw [e] at h; cases h
  | some j => rw [e] at h; exact r.get h
theorem f_ix {K : PySem.W.Frag} : Op2 K (rIxA K) opIx := by
  intro w S σ W a b x y Q r ra rb h
  have rest : Po K W (rA K) w σ (ixRest S a b) Q → rIxA K x y w.H Q := by
    intro h
    unfold ixRest at h
    cases e : dicAt S a with
    | some kvs =>
      rw [e] at h
      obtain ⟨p, vs, hy, rdh, rk⟩ := dicAt_ok r ra e
      cases e2 : keyOf b with
      | none => simp only [e2] at h; exact h.elim
      | some ky =>
        simp only [e2] at h
        have g := getK_ok rk ky
        cases e3 : getK kvs ky with
        | none => simp only [e3] at h; exact h.elim
        | some z =>
          simp only [e3] at h g
          obtain ⟨v, hv, rv⟩ := g
          subst hy
          exact .inr ⟨p, v, rfl, .inl ⟨vs, ky, rdh, keyOf_ok rb e2, hv.symm⟩, Po.now h r rv⟩
    | none =>
      rw [e] at h
      cases e2 : lstAt S a with
      | none => simp only [e2] at h; exact h.elim
      | some xs =>
        simp only [e2] at h
        cases b with
        | int i =>
          simp only [ixInt] at h
          cases rb
          obtain ⟨p, vs, rfl, sq, rs⟩ := lstAt_ok r ra e2
          cases e3 : atI xs i with
          | none => rw [e3] at h; exact h.elim
          | some z =>
            rw [e3] at h
            obtain ⟨v, hv, rv⟩ := atI_ok rs e3
            exact .inl (.inl ⟨p, vs, i, v, rfl, rfl, sq, hv, Po.now h r rv⟩)
        | _ => exact h.elim
  cases a with
  | tup xs =>
    cases b with
    | int i =>
      cases rb
      cases ra with
      | @tup _ p vs h1 h2 =>
        unfold opIx at h
        simp only at h
        cases e3 : atI xs i with
        | none => rw [e3] at h; exact h.elim
        | some z =>
          rw [e3] at h
          obtain ⟨v, hv, rv⟩ := atI_ok h2 e3
          exact .inl (.inr (.inl ⟨p, vs, i, v, rfl, rfl, r.sqT h1, hv, Po.now h r rv⟩))
    | _ => exact rest h
  | str s =>
    cases b with
    | int i =>
      cases rb; cases ra
      unfold opIx at h
      simp only at h
      split at h
      · rename_i hz
        cases e3 : atI s.cps.toList i with
        | none => rw [e3] at h; exact h.elim
        | some c =>
          rw [e3] at h
          exact .inl (.inr (.inr ⟨s, i, c, rfl, rfl, by rw [line_eq]; exact hz, e3, Po.now h r (.str _)⟩))
      · exact h.elim
    | _ => exact rest h
  | _ => exact rest (by unfold opIx at h; cases b <;> exact h)
end VM
end
section
set_option Elab.async false
set_option linter.all false
set_option maxRecDepth 100000
set_option maxHeartbeats 4000000
set_option autoImplicit false
/-! Slices, built-ins, methods, displays. -/
namespace VM
open PySem PySem.Spec PyProof.Rows L2

/-! ### slices -/
def cutA (xs : List A) (lo hi : Option Int) : List A := (xs.drop (HT.sIx xs.length 0 lo)).take (HT.sIx xs.length xs.length hi - HT.sIx xs.length 0 lo)
theorem cut_ok {K : PySem.W.Frag} {F : Hp} {m : List Addr} {xs : List A} {vs : List V} (r : RAs K F m xs vs) (lo hi : Option Int) : RAs K F m (cutA xs lo hi) (cutV vs lo hi) := by
  unfold cutA cutV
  rw [← r.length]
  exact (r.drop _).take _
def opSl (a : A) (lo hi : Option Int) : M A := fun S => match a with
  | .tup xs => .ok (.tup (cutA xs lo hi)) S
  | .str s => if s.length ≤ LINE then .ok (.str (cutS s lo hi)) S else .bad
  | a => (match lstAt S a with
    | some xs => .ok (.lst (cutA xs lo hi)) S
    | none => .bad)
def rSlAll (K : PySem.W.Frag) : V → Option Int → Option Int → Hp → VK → Prop := fun x lo hi H Q => rSlA K x lo hi H Q ∨ rSlL K x lo hi H Q ∨ rSlS x lo hi H Q
theorem or_sl {X : Cx} : SlR X (rSlAll X.K) := sl_tupA.or (sl_list.or sl_str)
theorem cutA_whole (xs : List A) (lo hi : Option Int) (h : HT.sIx xs.length 0 lo = 0 ∧ HT.sIx xs.length xs.length hi = xs.length) : cutA xs lo hi = xs := by
  unfold cutA
  rw [h.1, h.2]
  simp
theorem f_sl {K : PySem.W.Frag} {w : Wd} {S : Store} {σ : SV} {W : WX} {a : A} {x : V} {lo hi : Option Int} {Q : VK} (r : Rel K w S) (ra : RA K w.F w.m a x) (h : Po K W (rA K) w σ (opSl a lo hi S) Q) : rSlAll K x lo hi w.H Q := by
  have lists : (match lstAt S a with
    | some xs => Po K W (rA K) w σ (.ok (.lst (cutA xs lo hi)) S) Q
    | none => False) → rSlAll K x lo hi w.H Q := by
    intro h
    cases e : lstAt S a with
    | none => rw [e] at h; exact h.elim
    | some xs =>
      rw [e] at h
      obtain ⟨p, vs, rfl, sq, rs⟩ := lstAt_ok r ra e
      exact .inr (.inl ⟨p, vs, rfl, sq, fun p hp => Po.frzL r (cut_ok rs lo hi) h p hp⟩)
  cases a with
  | tup xs =>
    cases ra with
    | @tup _ p vs h1 h2 =>
      refine .inl ⟨p, vs, rfl, r.sqT h1, fun hw => ?_, fun _ p' hp => Po.frzT r (cut_ok h2 lo hi) h p' hp⟩
      rw [← h2.length] at hw
      have h : Po K W (rA K) w σ (.ok (.tup (cutA xs lo hi)) S) Q := h
      rw [cutA_whole xs lo hi hw] at h
      exact Po.now h r (.tup h1 h2)
  | str s =>
    cases ra
    unfold opSl at h
    simp only at h
    split at h
    · rename_i hz; exact .inr (.inr ⟨s, rfl, by rw [line_eq]; exact hz, Po.now h r (.str _)⟩)
    · exact h.elim
  | lst xs => exact lists h
  | ref n =>
    refine lists ?_
    unfold opSl at h
    simp only at h
    cases e : lstAt S (.ref n) with
    | none => rw [e] at h; exact h
    | some xs => rw [e] at h; exact h
  | _ => exact h.elim
/-- a part of a slice -/
abbrev CO := Slots → M (Option Int)
def pNo : CO := fun _ S => .ok none S
def pSome (c : C) : CO := fun e => bnd (c e) fun a S => match a with
  | .int i => .ok (some i) S
  | _ => .bad
def cSl (c : C) (lo hi : CO) : C := fun e => bnd (c e) fun x => bnd (lo e) fun l => bnd (hi e) fun h => opSl x l h
def rO (w : Wd) (a b : Option Int) : Prop := a = b
section
variable {X : Cx} {W : WX} {k : Nat} {a b c e : Expr} {es : List Expr} {ca cb cc : C} {cl : CL} {pos : Pos} {lo hi : Option Expr} {cl' ch : CO}
theorem PO.weak {t t' : TO} {o : Option Expr} (h : PO X o t) (q : ∀ σ H Q, t' σ H Q → t σ H Q) : PO X o t' := ⟨fun pins s σ H Q I z => h.run pins s σ H Q I (q σ H Q z)⟩
theorem o_none : PO X none (rd X.K W rO pNo) := PO.weak po_none fun σ H Q ⟨w, e, S, eH, r, re, h⟩ => by subst eH; exact h w none (Ext.refl w) r rfl
theorem o_some (h : PE X a (tC X.K W ca)) : PO X (some a) (rd X.K W rO (pSome ca)) := PO.weak (po_some h) fun σ H Q ⟨w, e, S, eH, r, re, h⟩ => by
  refine ⟨w, e, S, eH, r, re, Po.bnd h fun x S1 w1 v e1 r1 q1 h1 => ?_⟩
  cases x with
  | int i => cases q1; exact ⟨i, rfl, h1 w1 (some i) (Ext.refl _) r1 rfl⟩
  | _ => exact h1.elim
theorem e_sl {p2 : Pos} (he : PE X a (tC X.K W ca)) (hl : PO X lo (rd X.K W rO cl')) (hu : PO X hi (rd X.K W rO ch)) : PE X (.Subscript a (.Slice lo hi none p2) pos) (tC X.K W (cSl ca cl' ch)) := by
  refine PE.weak (pe_slice or_sl he hl hu) fun σ H Q ⟨w, e, S, eH, r, re, h⟩ => ?_
  refine ⟨w, e, S, eH, r, re, Po.bnd h fun x S1 w1 v e1 r1 q1 h1 => ?_⟩
  refine ⟨w1, e, S1, rfl, r1, re.ext e1, Po.bnd h1 fun l S2 w2 l' e2 r2 q2 h2 => ?_⟩
  cases (show l = l' from q2)
  refine ⟨w2, e, S2, rfl, r2, (re.ext e1).ext e2, Po.bnd h2 fun u S3 w3 u' e3 r3 q3 h3 => ?_⟩
  cases (show u = u' from q3)
  exact f_sl r3 ((q1.ext e2).ext e3) h3

/-! ### displays -/
def cTup (cl : CL) : C := fun e => bnd (cl e) fun xs S => if xs.length ≤ LINE then .ok (.tup xs) S else .bad
def cLst (cl : CL) : C := fun e => bnd (cl e) fun xs S => if xs.length ≤ LINE then .ok (.lst xs) S else .bad
def cLstN (cl : CL) : C := fun e => bnd (cl e) fun xs S => if xs.length ≤ LINE then .ok (.ref S.length) (S ++ [.lst xs]) else .bad
theorem e_tup {k : Nat} (h : PA X es (tL X.K W cl)) : PE X (.Tuple es k pos) (tC X.K W (cTup cl)) := by
  refine PE.weak (pe_tup h) fun σ H Q ⟨w, e, S, eH, r, re, h⟩ => ?_
  refine ⟨w, e, S, eH, r, re, Po.bnd h fun x S1 w1 v e1 r1 q1 h1 => ?_⟩
  split at h1
  · rename_i hz; exact ⟨by rw [← q1.length, line_eq]; exact hz, fun p hp => Po.frzT r1 q1 h1 p hp⟩
  · exact h1.elim
theorem e_lst (h : PA X es (tL X.K W cl)) : PE X (.List es pos) (tC X.K W (cLst cl)) := by
  refine PE.weak (pe_lst h) fun σ H Q ⟨w, e, S, eH, r, re, h⟩ => ?_
  refine ⟨w, e, S, eH, r, re, Po.bnd h fun x S1 w1 v e1 r1 q1 h1 => ?_⟩
  split at h1
  · rename_i hz; exact ⟨by rw [← q1.length, line_eq]; exact hz, fun p hp => Po.frzL r1 q1 h1 p hp⟩
  · exact h1.elim
theorem e_lstN (h : PA X es (tL X.K W cl)) : PE X (.List es pos) (tC X.K W (cLstN cl)) := by
  refine PE.weak (pe_lst h) fun σ H Q ⟨w, e, S, eH, r, re, h⟩ => ?_
  refine ⟨w, e, S, eH, r, re, Po.bnd h fun x S1 w1 v e1 r1 q1 h1 => ?_⟩
  split at h1
  · rename_i hz; exact ⟨by rw [← q1.length, line_eq]; exact hz, fun p hp => Po.newL r1 q1 h1 p hp⟩
  · exact h1.elim
def cDicN0 : C := fun _ S => .ok (.ref S.length) (S ++ [.dic []])
theorem e_dicN0 : PE X (.Dict [] [] pos) (tC X.K W cDicN0) := PE.weak pe_dnewK fun σ H Q ⟨w, e, S, eH, r, re, h⟩ => by
  subst eH
  exact fun p hp => Po.newD r .nil h p hp
/-- {k: v, ..}: keys then values from the left; written keys are ints and texts -/
def putA (kvs : List (Key × A)) (k : Key) (v : A) : List (Key × A) :=
  if (kvs.any fun kv => decide (kv.1 = k)) = true then kvs.map (fun kv => if kv.1 = k then (kv.1, v) else kv) else kvs ++ [(k, v)]
def mergeA (kvs more : List (Key × A)) : List (Key × A) := more.foldl (fun acc kv => putA acc kv.1 kv.2) kvs
def pairs : List (C × C) → Slots → M (List (Key × A))
  | [] => fun _ => pur []
  | (k, v) :: r => fun e => bnd (k e) fun x => bnd (v e) fun y => bnd (pairs r e) fun ps S => match keyOf x with
    | some j => .ok ((j, y) :: ps) S
    | none => .bad
def cDic (ps : List (C × C)) : C := fun e => bnd (pairs ps e) fun kvs S => if kvs.length ≤ 15 then .ok (.dic (mergeA [] kvs)) S else .bad
def cDicN (ps : List (C × C)) : C := fun e => bnd (pairs ps e) fun kvs S => if kvs.length ≤ 15 then .ok (.ref S.length) (S ++ [.dic (mergeA [] kvs)]) else .bad
theorem RAk.any {K : PySem.W.Frag} {F : Hp} {m : List Addr} {xs : List (Key × A)} {vs : List (Key × V)} (r : RAk K F m xs vs) (k : Key) : (xs.any fun kv => decide (kv.1 = k)) = (vs.any fun kv => decide (kv.1 = k)) := by
  induction xs generalizing vs with
  | nil => cases r; rfl
  | cons x xs ih => cases r with | cons h t => simp only [List.any_cons]; rw [ih t]
theorem RAk.repl {K : PySem.W.Frag} {F : Hp} {m : List Addr} {xs : List (Key × A)} {vs : List (Key × V)} (r : RAk K F m xs vs) (k : Key) {a : A} {v : V} (ra : RA K F m a v) :
    RAk K F m (xs.map fun kv => if kv.1 = k then (kv.1, a) else kv) (vs.map fun kv => if kv.1 = k then (kv.1, v) else kv) := by
  induction xs generalizing vs with
  | nil => cases r; exact .nil
  | cons x xs ih =>
    cases r with
    | @cons j a' v' _ us h t =>
      simp only [List.map_cons]
      by_cases e : j = k
      · rw [if_pos e, if_pos e]; exact .cons ra (ih t)
      · rw [if_neg e, if_neg e]; exact .cons h (ih t)
theorem RAk.snoc {K : PySem.W.Frag} {F : Hp} {m : List Addr} {xs : List (Key × A)} {vs : List (Key × V)} (r : RAk K F m xs vs) (k : Key) {a : A} {v : V} (ra : RA K F m a v) : RAk K F m (xs ++ [(k, a)]) (vs ++ [(k, v)]) := by
  induction xs generalizing vs with
  | nil => cases r; exact .cons ra .nil
  | cons x xs ih => cases r with | cons h t => exact .cons h (ih t)
theorem RAk.put {K : PySem.W.Frag} {F : Hp} {m : List Addr} {xs : List (Key × A)} {vs : List (Key × V)} (r : RAk K F m xs vs) (k : Key) {a : A} {v : V} (ra : RA K F m a v) : RAk K F m (putA xs k a) (putK vs k v) := by
  unfold putA putK
  rw [r.any k]
  split
  · exact r.repl k ra
  · exact r.snoc k ra
theorem RAk.merge {K : PySem.W.Frag} {F : Hp} {m : List Addr} {more : List (Key × A)} {ms : List (Key × V)} (q : RAk K F m more ms) : ∀ {xs : List (Key × A)} {vs : List (Key × V)}, RAk K F m xs vs → RAk K F m (mergeA xs more) (mergeK vs ms) := by
  induction more generalizing ms with
  | nil => cases q; exact fun r => r
  | cons x xs ih => cases q with | cons h t => exact fun r => ih t (r.put _ h)
theorem RAk.length {K : PySem.W.Frag} {F : Hp} {m : List Addr} {xs : List (Key × A)} {vs : List (Key × V)} (r : RAk K F m xs vs) : xs.length = vs.length := by
  induction xs generalizing vs with
  | nil => cases r; rfl
  | cons x xs ih => cases r with | cons h t => simp [ih t]
def rP (K : PySem.W.Frag) (w : Wd) (a : List (Key × A)) (b : List (V × V)) : Prop := ∃ kvs, b = kvs.map (fun kv => (kV kv.1, kv.2)) ∧ RAk K w.F w.m a kvs
theorem pairs_rd : ∀ (ps : List (C × C)) (σ : SV) (H : Hp) (Q : List (V × V) → Hp → Prop), rd X.K W (rP X.K) (pairs ps) σ H Q → tPairs (ps.map fun p => (tC X.K W p.1, tC X.K W p.2)) σ H Q
  | [], σ, H, Q, ⟨w, e, S, eH, r, re, h⟩ => by subst eH; exact h w [] (Ext.refl w) r ⟨[], rfl, .nil⟩
  | (k, v) :: ps, σ, H, Q, ⟨w, e, S, eH, r, re, h⟩ => by
    refine ⟨w, e, S, eH, r, re, Po.bnd h fun x S1 w1 u e1 r1 q1 h1 => ?_⟩
    refine ⟨w1, e, S1, rfl, r1, re.ext e1, Po.bnd h1 fun y S2 w2 z e2 r2 q2 h2 => ?_⟩
    refine pairs_rd ps σ w2.H _ ⟨w2, e, S2, rfl, r2, (re.ext e1).ext e2, Po.bnd h2 fun qs S3 w3 bs e3 r3 q3 h3 => ?_⟩
    cases e4 : keyOf x with
    | none => simp only [e4] at h3; exact h3.elim
    | some j =>
      simp only [e4] at h3
      obtain ⟨kvs, rfl, q3⟩ := q3
      have hu := keyOf_ok q1 e4
      subst hu
      exact h3 w3 _ (Ext.refl _) r3 ⟨(j, z) :: kvs, rfl, .cons (q2.ext e3) q3⟩
theorem pps_of {ks : List Expr} {vs : List Expr} {ps : List (C × C)} : True := trivial
/-- the display's own thing on the side: a dict -/
structure SideD (w0 w : Wd) (D : Addr) : Prop where
  ext : Ext w0 w
  at_ : w.H D = some (.dK [])
  new : w0.H D = none
  nm : D ∉ w.m
  nf : w.F D = none
theorem SideD.start {K : PySem.W.Frag} {w : Wd} {S : Store} {D : Addr} (r : Rel K w S) (h : w.H D = none) : Rel K ⟨w.F, w.m, upd w.H D (.dK [])⟩ S ∧ SideD w ⟨w.F, w.m, upd w.H D (.dK [])⟩ D := by
  have hF : w.F D = none := by
    cases q : w.F D with
    | none => rfl
    | some u => rcases r.fz _ _ q with z | ⟨o, z⟩ <;> (rw [h] at z; cases z)
  have hm : D ∉ w.m := fun z => (r.out z).2 h
  have ex : Ext w ⟨w.F, w.m, upd w.H D (.dK [])⟩ := by
    refine ⟨fun _ _ h => h, ⟨[], by simp⟩, fun p o q _ => ?_, fun _ h => .inl h, fun _ h => .inl h, fun p q => ?_⟩
    · show upd w.H D _ p = _
      rw [upd_ne (ne_of_none q h)]; exact q
    · show upd w.H D _ p ≠ none
      by_cases e : p = D
      · subst e; rw [upd_same]; simp
      · rw [upd_ne e]; exact q
  refine ⟨⟨fun p u q => ?_, r.nd, r.ln, fun n o q => ?_⟩, ex, upd_same, h, hm, hF⟩
  · have hp : p ≠ D := fun z => by subst z; rw [show w.F p = _ from hF] at q; cases q
    rcases r.fz _ _ q with z | ⟨o, z⟩
    · exact .inl (by show upd w.H D _ p = _; rw [upd_ne hp]; exact z)
    · exact .inr ⟨o, by show upd w.H D _ p = _; rw [upd_ne hp]; exact z⟩
  · obtain ⟨p, h1, h2, h3⟩ := r.ob n o q
    have hp : p ≠ D := fun z => hm (z ▸ List.mem_of_getElem? h1)
    exact ⟨p, h1, h2, h3.move ex (upd_ne hp)⟩
theorem SideD.go {w w1 w2 : Wd} {D : Addr} (s : SideD w w1 D) (e : Ext w1 w2) : SideD w w2 D := by
  refine ⟨s.ext.trans e, e.keep _ _ s.at_ s.nm, s.new, fun z => ?_, ?_⟩
  · rcases e.mn _ z with z | z
    · exact s.nm z
    · rw [s.at_] at z; cases z
  · cases q : w2.F D with
    | none => rfl
    | some u =>
      rcases e.fn D (by rw [q]; simp) with z | z
      · exact absurd s.nf z
      · rw [s.at_] at z; cases z
/-- the thing is told: frozen, or with a handle -/
theorem SideD.fin {K : PySem.W.Frag} {w w1 : Wd} {S : Store} {D : Addr} {xs : List (Key × A)} {vs : List (Key × V)} (s : SideD w w1 D) (r : Rel K w1 S) (ra : RAk K w1.F w1.m xs vs) :
    Rel K ⟨upd w1.F D (.dK vs), w1.m, upd w1.H D (.dK vs)⟩ S ∧ Ext w ⟨upd w1.F D (.dK vs), w1.m, upd w1.H D (.dK vs)⟩ ∧ RA K (upd w1.F D (.dK vs)) w1.m (.dic xs) (.ref D) := by
  have fr : ∀ p u, w1.F p = some u → upd w1.F D (.dK vs) p = some u := fun p u q => by rw [upd_ne (ne_of_none q s.nf)]; exact q
  refine ⟨⟨fun p u q => ?_, r.nd, r.ln, fun n o q => ?_⟩, ⟨fun p u q => fr p u (s.ext.fr p u q), s.ext.mp, fun p o q hm => ?_, fun p q => ?_, s.ext.mn, fun p q => ?_⟩, .dic upd_same (ra.mono fr ⟨[], by simp⟩)⟩
  · have q : upd w1.F D (.dK vs) p = some u := q
    by_cases e : p = D
    · subst e; rw [upd_same] at q; cases q; exact .inl upd_same
    · rw [upd_ne e] at q
      rcases r.fz p u q with z | ⟨o, z⟩
      · exact .inl (by show upd w1.H D _ p = _; rw [upd_ne e]; exact z)
      · exact .inr ⟨o, by show upd w1.H D _ p = _; rw [upd_ne e]; exact z⟩
  · obtain ⟨p, h1, h2, h3⟩ := r.ob n o q
    have hp : p ≠ D := fun z => s.nm (z ▸ List.mem_of_getElem? h1)
    have e2 : upd w1.H D (.dK vs) p = w1.H p := upd_ne hp
    refine ⟨p, h1, (by show upd w1.F D _ p = none; rw [upd_ne hp]; exact h2), ?_⟩
    cases o with
    | lst xs => obtain ⟨us, z1, z2⟩ := h3; exact ⟨us, e2.trans z1, z2.mono fr ⟨[], by simp⟩⟩
    | dic xs => obtain ⟨us, z1, z2⟩ := h3; exact ⟨us, e2.trans z1, z2.mono fr ⟨[], by simp⟩⟩
    | ins c fs => obtain ⟨dx, us, z1, z2⟩ := h3; exact ⟨dx, us, e2.trans z1, z2.mono fr ⟨[], by simp⟩⟩
    | dead => show upd w1.H D (.dK vs) p ≠ none; rw [e2]; exact h3
  · show upd w1.H D _ p = _
    rw [upd_ne (ne_of_none q s.new)]; exact s.ext.keep p o q hm
  · have q : upd w1.F D (.dK vs) p ≠ none := q
    by_cases e : p = D
    · subst e; exact .inr s.new
    · rw [upd_ne e] at q; exact s.ext.fn p q
  · show upd w1.H D _ p ≠ none
    by_cases e : p = D
    · subst e; rw [upd_same]; simp
    · rw [upd_ne e]; exact s.ext.mono p q
theorem SideD.finN {K : PySem.W.Frag} {w w1 : Wd} {S : Store} {D : Addr} {xs : List (Key × A)} {vs : List (Key × V)} (s : SideD w w1 D) (r : Rel K w1 S) (ra : RAk K w1.F w1.m xs vs) :
    Rel K ⟨w1.F, w1.m ++ [D], upd w1.H D (.dK vs)⟩ (S ++ [.dic xs]) ∧ Ext w ⟨w1.F, w1.m ++ [D], upd w1.H D (.dK vs)⟩ ∧ RA K w1.F (w1.m ++ [D]) (.ref S.length) (.ref D) := by
  have fzd : ∀ p u, w1.F p = some u → p ≠ D := fun p u q z => by subst z; rw [s.nf] at q; cases q
  have at2 : (w1.m ++ [D])[S.length]? = some D := by rw [List.getElem?_append_right (by rw [r.ln]; omega), r.ln]; simp
  refine ⟨⟨fun p u q => ?_, ?_, by simp [r.ln], fun n o q => ?_⟩, ⟨s.ext.fr, ?_, fun p o q hm => ?_, s.ext.fn, fun p q => ?_, fun p q => ?_⟩, .ref at2⟩
  · have hp := fzd p u q
    rcases r.fz _ _ q with z | ⟨o, z⟩
    · exact .inl (by show upd w1.H D _ p = _; rw [upd_ne hp]; exact z)
    · exact .inr ⟨o, by show upd w1.H D _ p = _; rw [upd_ne hp]; exact z⟩
  · show (w1.m ++ [D]).Nodup
    rw [List.nodup_append]
    exact ⟨r.nd, by simp, fun a ha b hb => by rw [List.mem_singleton.mp hb]; exact fun z => s.nm (z ▸ ha)⟩
  · by_cases hn : n < S.length
    · rw [List.getElem?_append_left hn] at q
      obtain ⟨p, h1, h2, h3⟩ := r.ob n o q
      have hp : p ≠ D := fun z => s.nm (z ▸ List.mem_of_getElem? h1)
      have e2 : upd w1.H D (.dK vs) p = w1.H p := upd_ne hp
      refine ⟨p, ?_, h2, ?_⟩
      · show (w1.m ++ [D])[n]? = _
        rw [List.getElem?_append_left (by rw [r.ln]; exact hn)]; exact h1
      · cases o with
        | lst xs => obtain ⟨us, z1, z2⟩ := h3; exact ⟨us, e2.trans z1, z2.mono (fun _ _ h => h) ⟨[D], rfl⟩⟩
        | dic xs => obtain ⟨us, z1, z2⟩ := h3; exact ⟨us, e2.trans z1, z2.mono (fun _ _ h => h) ⟨[D], rfl⟩⟩
        | ins c fs => obtain ⟨dx, us, z1, z2⟩ := h3; exact ⟨dx, us, e2.trans z1, z2.mono (fun _ _ h => h) ⟨[D], rfl⟩⟩
        | dead => show upd w1.H D (.dK vs) p ≠ none; rw [e2]; exact h3
    · rw [List.getElem?_append_right (by omega)] at q
      have e : n - S.length = 0 := by
        have := (List.getElem?_eq_some_iff.mp q).1
        simp at this; omega
      rw [e] at q
      have h' : O.dic xs = o := by simpa using q
      subst h'
      have hn' : n = S.length := by omega
      subst hn'
      exact ⟨D, at2, s.nf, vs, upd_same, ra.mono (fun _ _ h => h) ⟨[D], rfl⟩⟩
  · obtain ⟨l, e⟩ := s.ext.mp
    exact ⟨l ++ [D], by rw [e, List.append_assoc]⟩
  · show upd w1.H D _ p = _
    rw [upd_ne (ne_of_none q s.new)]; exact s.ext.keep p o q hm
  · rcases List.mem_append.mp q with q | q
    · exact s.ext.mn p q
    · exact .inr (by rw [List.mem_singleton.mp q]; exact s.new)
  · show upd w1.H D _ p ≠ none
    by_cases e : p = D
    · subst e; rw [upd_same]; simp
    · rw [upd_ne e]; exact s.ext.mono p q
theorem disp_rd (frozen : Bool) (ps : List (C × C)) (σ : SV) (H : Hp) (Q : VK) (h : tC X.K W (if frozen then cDic ps else cDicN ps) σ H Q) : tDisp (ps.map fun p => (tC X.K W p.1, tC X.K W p.2)) σ H Q := by
  obtain ⟨w, e, S, rfl, r, re, h⟩ := h
  intro D hD
  obtain ⟨r0, s0⟩ := SideD.start r hD
  have h0 : Po X.K W (rA X.K) w σ (bnd (pairs ps e) (fun kvs S => if kvs.length ≤ 15 then (if frozen then .ok (.dic (mergeA [] kvs)) S else .ok (.ref S.length) (S ++ [.dic (mergeA [] kvs)])) else .bad) S) Q := by
    cases frozen <;> exact h
  refine pairs_rd ps σ _ _ ⟨⟨w.F, w.m, upd w.H D (.dK [])⟩, e, S, rfl, r0, re, ?_⟩
  cases q : pairs ps e S with
  | ok kvs S1 =>
    rw [bnd_ok q] at h0
    intro w1 bs e1 r1 q1
    obtain ⟨us, rfl, q1⟩ := q1
    have s1 := s0.go e1
    split at h0
    · rename_i hz
      refine ⟨s1.at_, us, rfl, by rw [← q1.length]; exact hz, ?_⟩
      have rm : RAk X.K w1.F w1.m (mergeA [] kvs) (mergeK [] us) := q1.merge .nil
      cases frozen with
      | true =>
        obtain ⟨f1, f2, f3⟩ := s1.fin r1 rm
        exact h0 ⟨upd w1.F D (.dK (mergeK [] us)), w1.m, upd w1.H D (.dK (mergeK [] us))⟩ (.ref D) f2 f1 f3
      | false =>
        obtain ⟨f1, f2, f3⟩ := s1.finN r1 rm
        exact h0 ⟨w1.F, w1.m ++ [D], upd w1.H D (.dK (mergeK [] us))⟩ (.ref D) f2 f1 f3
    · exact h0.elim
  | exc x S1 => rw [bnd_exc q] at h0; exact fun w1 c d e1 r1 q1 => h0 w1 c d (s0.ext.trans e1) r1 q1
  | bad => rw [bnd_bad q] at h0; exact h0.elim
theorem e_dic {keys : List (Option Expr)} {values : List Expr} {ps : List (C × C)} (h : PPs X pos keys values (ps.map fun p => (tC X.K W p.1, tC X.K W p.2))) (hall : keys.all (·.isSome) = true := by rfl) (hl : keys.length = values.length := by rfl) (h0 : keys ≠ [] := by exact fun z => by cases z)
    (h15 : keys.length ≤ 15 := by decide) : PE X (.Dict keys values pos) (tC X.K W (cDic ps)) := PE.weak (pe_disp h hall hl h0 h15) (disp_rd true ps)
theorem e_dicN {keys : List (Option Expr)} {values : List Expr} {ps : List (C × C)} (h : PPs X pos keys values (ps.map fun p => (tC X.K W p.1, tC X.K W p.2))) (hall : keys.all (·.isSome) = true := by rfl) (hl : keys.length = values.length := by rfl) (h0 : keys ≠ [] := by exact fun z => by cases z)
    (h15 : keys.length ≤ 15 := by decide) : PE X (.Dict keys values pos) (tC X.K W (cDicN ps)) := PE.weak (pe_disp h hall hl h0 h15) (disp_rd false ps)
theorem pp_cons {kx vx : Expr} {ks : List (Option Expr)} {vs : List Expr} {ps : List (C × C)} (hk : PE X kx (tC X.K W ca)) (hv : PE X vx (tC X.K W cb)) (hr : PPs X pos ks vs (ps.map fun p => (tC X.K W p.1, tC X.K W p.2))) :
    PPs X pos (some kx :: ks) (vx :: vs) (((ca, cb) :: ps).map fun p => (tC X.K W p.1, tC X.K W p.2)) := pps_cons hk hv hr
theorem pp_nil : PPs X pos [] [] (([] : List (C × C)).map fun p => (tC X.K W p.1, tC X.K W p.2)) := pps_nil
end
end VM
end
section
set_option Elab.async false
set_option linter.all false
set_option maxRecDepth 100000
set_option maxHeartbeats 4000000
set_option autoImplicit false
/-! Built-ins and methods. -/
namespace VM
open PySem PySem.Spec PyProof.Rows L2

theorem CallR.or {X : Cx} {f : Value} {r r' : List V → Hp → VK → Prop} (h : CallR X f r) (h' : CallR X f r') : CallR X f (fun xs H Q => r xs H Q ∨ r' xs H Q) := by
  intro pins s σ H xs us Q I rs q
  rcases q with q | q
  · exact h pins s σ H xs us Q I rs q
  · exact h' pins s σ H xs us Q I rs q
theorem PSet.or {X : Cx} {t t' : TSet} (h : PSet X t) (h' : PSet X t') : PSet X (fun o i v H Q => t o i v H Q ∨ t' o i v H Q) := by
  intro pins s σ H o i v ov iv u Q I ro ri rv q
  rcases q with q | q
  · exact h pins s σ H o i v ov iv u Q I ro ri rv q
  · exact h' pins s σ H o i v ov iv u Q I ro ri rv q
theorem RAs.one {K : PySem.W.Frag} {F : Hp} {m : List Addr} {a : A} {vs : List V} (r : RAs K F m [a] vs) : ∃ v, vs = [v] ∧ RA K F m a v := by
  cases r with | cons h t => cases t; exact ⟨_, rfl, h⟩
theorem RAs.two {K : PySem.W.Frag} {F : Hp} {m : List Addr} {a b : A} {vs : List V} (r : RAs K F m [a, b] vs) : ∃ v u, vs = [v, u] ∧ RA K F m a v ∧ RA K F m b u := by
  cases r with
  | cons h t =>
    obtain ⟨u, rfl, h2⟩ := t.one
    exact ⟨_, u, rfl, h, h2⟩
/-- one value, two values -/
def op1 (f : A → M A) (as : List A) : M A := match as with
  | [a] => f a
  | _ => bad
def op2 (f : A → A → M A) (as : List A) : M A := match as with
  | [a, b] => f a b
  | _ => bad
theorem f_1 {K : PySem.W.Frag} {r : List V → Hp → VK → Prop} {f : A → M A} (h : ∀ (w : Wd) (S : Store) (σ : SV) (W : WX) (a : A) (v : V) (Q : VK), Rel K w S → RA K w.F w.m a v → Po K W (rA K) w σ (f a S) Q → r [v] w.H Q) : OpN K r (op1 f) := by
  intro w S σ W as vs Q r ra z
  cases as with
  | nil => exact z.elim
  | cons a t =>
    cases t with
    | nil =>
      obtain ⟨v, rfl, ra'⟩ := ra.one
      exact h w S σ W a v Q r ra' z
    | cons _ _ => exact z.elim
theorem f_2 {K : PySem.W.Frag} {r : List V → Hp → VK → Prop} {f : A → A → M A} (h : ∀ (w : Wd) (S : Store) (σ : SV) (W : WX) (a b : A) (v u : V) (Q : VK), Rel K w S → RA K w.F w.m a v → RA K w.F w.m b u → Po K W (rA K) w σ (f a b S) Q → r [v, u] w.H Q) : OpN K r (op2 f) := by
  intro w S σ W as vs Q r ra z
  cases as with
  | nil => exact z.elim
  | cons a t =>
    cases t with
    | nil => exact z.elim
    | cons b t =>
      cases t with
      | nil =>
        obtain ⟨v, u, rfl, ra', rb'⟩ := ra.two
        exact h w S σ W a b v u Q r ra' rb' z
      | cons _ _ => exact z.elim
/-! ### len -/
theorem call_lenDR {X : Cx} : CallR X (.builtin "len") (fun xs H Q => ∃ a kvs, xs = [V.ref a] ∧ Rd H a (.dK kvs) ∧ Q (.int kvs.length) H) := by
  intro pins s σ H xs us Q I r h
  obtain ⟨a, kvs, rfl, ha, q⟩ := h
  obtain ⟨u, rfl, ru⟩ := vals1 r
  cases ru
  exact d_len I ha fun t s' I' => ⟨.int kvs.length, H, I', ⟨t, rfl⟩, q⟩
def rLenA (K : PySem.W.Frag) : List V → Hp → VK → Prop := fun xs H Q => (∃ x n, xs = [x] ∧ LenV K x H n ∧ Q (.int n) H) ∨ ∃ a kvs, xs = [V.ref a] ∧ Rd H a (.dK kvs) ∧ Q (.int kvs.length) H
theorem or_len {X : Cx} : CallR X (.builtin "len") (rLenA X.K) := call_len.or call_lenDR
def lenA (S : Store) (a : A) : Option Nat := match a with
  | .str s => if s.length ≤ LINE then some s.length else none
  | .tup xs => some xs.length
  | a => (match dicAt S a with
    | some kvs => some kvs.length
    | none => (match lstAt S a with
      | some xs => some xs.length
      | none => none))
def opLen : List A → M A := op1 fun a S => match lenA S a with
  | some n => .ok (.int n) S
  | none => .bad
theorem f_len {K : PySem.W.Frag} : OpN K (rLenA K) opLen := by
  refine f_1 fun w S σ W a v Q r ra h => ?_
  cases e : lenA S a with
  | none => rw [e] at h; exact h.elim
  | some n =>
    rw [e] at h
    have q := Po.now h r (.int _)
    have rest : (match dicAt S a with
        | some kvs => some kvs.length
        | none => (match lstAt S a with
          | some xs => some xs.length
          | none => none)) = some n → rLenA K [v] w.H Q := by
      intro e
      cases e1 : dicAt S a with
      | some kvs =>
        rw [e1] at e
        cases e
        obtain ⟨p, us, rfl, h1, h2⟩ := dicAt_ok r ra e1
        exact .inr ⟨p, us, rfl, h1, by rw [← h2.length]; exact q⟩
      | none =>
        rw [e1] at e
        cases e2 : lstAt S a with
        | some xs =>
          rw [e2] at e
          cases e
          obtain ⟨p, us, rfl, h1, h2⟩ := lstAt_ok r ra e2
          exact .inl ⟨.ref p, xs.length, rfl, .inl ⟨us, h1, h2.length⟩, q⟩
        | none => rw [e2] at e; cases e
    cases a with
    | str s =>
      cases ra
      simp only [lenA] at e
      split at e
      · rename_i hz
        cases e
        exact .inl ⟨.str s, s.length, rfl, ⟨by rw [line_eq]; exact hz, rfl⟩, q⟩
      · cases e
    | tup xs =>
      cases e
      cases ra with
      | @tup _ p us h1 h2 => exact .inl ⟨.ref p, xs.length, rfl, .inr ⟨us, r.sqT h1, h2.length⟩, q⟩
    | _ => exact rest e
/-! ### tuple, list -/
def rTupA (K : PySem.W.Frag) : List V → Hp → VK → Prop := fun xs H Q => ∃ p ys, xs = [.ref p] ∧ ((SqL K H p ys ∧ ∀ l, H l = none → Q (.ref l) (upd H l (.tup ys))) ∨ (SqT K H p ys ∧ Q (.ref p) H))
def opTup1 (a : A) : M A := fun S => match a with
  | .tup xs => .ok (.tup xs) S
  | a => (match lstAt S a with
    | some xs => .ok (.tup xs) S
    | none => .bad)
def opTup : List A → M A := op1 opTup1
theorem f_tup {K : PySem.W.Frag} : OpN K (rTupA K) opTup := by
  refine f_1 fun w S σ W a v Q r ra h => ?_
  have rest : (match lstAt S a with
      | some xs => Po K W (rA K) w σ (.ok (.tup xs) S) Q
      | none => False) → rTupA K [v] w.H Q := by
    intro h
    cases e : lstAt S a with
    | none => rw [e] at h; exact h.elim
    | some xs =>
      rw [e] at h
      obtain ⟨p, us, rfl, h1, h2⟩ := lstAt_ok r ra e
      exact ⟨p, us, rfl, .inl ⟨h1, fun l hl => Po.frzT r h2 h l hl⟩⟩
  cases a with
  | tup xs =>
    cases ra with
    | @tup _ p us h1 h2 => exact ⟨p, us, rfl, .inr ⟨r.sqT h1, Po.now h r (.tup h1 h2)⟩⟩
  | ref n =>
    refine rest ?_
    unfold opTup1 at h
    simp only at h
    cases e : lstAt S (.ref n) with
    | none => rw [e] at h; exact h
    | some xs => rw [e] at h; exact h
  | lst xs => exact rest h
  | _ => exact h.elim
def kA : Key → A
  | .inl i => .int i
  | .inr x => .str x
theorem kA_ok {K : PySem.W.Frag} {F : Hp} {m : List Addr} (k : Key) : RA K F m (kA k) (kV k) := by
  cases k with
  | inl i => exact .int i
  | inr x => exact .str x
theorem keys_ok {K : PySem.W.Frag} {F : Hp} {m : List Addr} {xs : List (Key × A)} {vs : List (Key × V)} (r : RAk K F m xs vs) : RAs K F m (xs.map fun kv => kA kv.1) (vs.map fun kv => kV kv.1) := by
  induction xs generalizing vs with
  | nil => cases r; exact .nil
  | cons x xs ih => cases r with | cons h t => exact .cons (kA_ok _) (ih t)
/-- what list(..) takes -/
def seqAt (S : Store) (a : A) : Option (List A) := match a with
  | .tup xs => some xs
  | a => (match dicAt S a with
    | some kvs => some (kvs.map fun kv => kA kv.1)
    | none => lstAt S a)
def rListA (K : PySem.W.Frag) : List V → Hp → VK → Prop := fun xs H Q => (∃ p ys, xs = [.ref p] ∧ (SqL K H p ys ∨ SqT K H p ys) ∧ ∀ l, H l = none → Q (.ref l) (upd H l (.lst ys))) ∨
  ∃ (a : Addr) (kvs : List (Key × V)), xs = [.ref a] ∧ Rd H a (.dK kvs) ∧ ∀ p, H p = none → Q (.ref p) (upd H p (.lst (kvs.map fun kv => kV kv.1)))
theorem or_list {X : Cx} (hc : X.calm = true) : CallR X (.type "list") (rListA X.K) := call_list_of.or (call_listD hc)
def opList : List A → M A := op1 fun a S => match seqAt S a with
  | some xs => .ok (.lst xs) S
  | none => .bad
def opListN : List A → M A := op1 fun a S => match seqAt S a with
  | some xs => .ok (.ref S.length) (S ++ [.lst xs])
  | none => .bad
theorem seq_list {K : PySem.W.Frag} {w : Wd} {S : Store} {a : A} {v : V} {xs : List A} {Q : VK} (r : Rel K w S) (ra : RA K w.F w.m a v) (e : seqAt S a = some xs) (q : ∀ us, RAs K w.F w.m xs us → ∀ l, w.H l = none → Q (.ref l) (upd w.H l (.lst us))) : rListA K [v] w.H Q := by
  have rest : (match dicAt S a with
    | some kvs => some (kvs.map fun kv => kA kv.1)
    | none => lstAt S a) = some xs → rListA K [v] w.H Q := by
    intro e
    cases e1 : dicAt S a with
    | some kvs =>
      rw [e1] at e
      cases e
      obtain ⟨p, us, rfl, h1, h2⟩ := dicAt_ok r ra e1
      exact .inr ⟨p, us, rfl, h1, q _ (keys_ok h2)⟩
    | none =>
      rw [e1] at e
      obtain ⟨p, us, rfl, h1, h2⟩ := lstAt_ok r ra e
      exact .inl ⟨p, us, rfl, .inl h1, q _ h2⟩
  cases a with
  | tup ys =>
    cases e
    cases ra with
    | @tup _ p us h1 h2 => exact .inl ⟨p, us, rfl, .inr (r.sqT h1), q _ h2⟩
  | _ => exact rest e
theorem f_list {K : PySem.W.Frag} : OpN K (rListA K) opList := by
  refine f_1 fun w S σ W a v Q r ra h => ?_
  cases e : seqAt S a with
  | none => rw [e] at h; exact h.elim
  | some xs => rw [e] at h; exact seq_list r ra e fun us ru l hl => Po.frzL r ru h l hl
theorem f_listN {K : PySem.W.Frag} : OpN K (rListA K) opListN := by
  refine f_1 fun w S σ W a v Q r ra h => ?_
  cases e : seqAt S a with
  | none => rw [e] at h; exact h.elim
  | some xs => rw [e] at h; exact seq_list r ra e fun us ru l hl => Po.newL r ru h l hl
/-! ### numbers -/
def opInt : List A → M A := op1 fun a S => match a with
  | .int i => .ok (.int i) S
  | .bl b => .ok (.int (if b then 1 else 0)) S
  | _ => .bad
theorem f_int {K : PySem.W.Frag} : OpN K (fun xs H Q => (∃ i, xs = [.int i] ∧ Q (.int i) H) ∨ ∃ k, xs = [.bl k] ∧ Q (.int (if k then 1 else 0)) H) opInt := by
  refine f_1 fun w S σ W a v Q r ra h => ?_
  cases a with
  | int i => cases ra; exact .inl ⟨i, rfl, Po.now h r (.int _)⟩
  | bl b => cases ra; exact .inr ⟨b, rfl, Po.now h r (.int _)⟩
  | _ => exact h.elim
def opAbs : List A → M A := op1 fun a S => match a with
  | .int i => .ok (.int (if i < 0 then -i else i)) S
  | _ => .bad
theorem f_abs {K : PySem.W.Frag} : OpN K (fun xs H Q => ∃ i, xs = [.int i] ∧ Q (.int (if i < 0 then -i else i)) H) opAbs := by
  refine f_1 fun w S σ W a v Q r ra h => ?_
  cases a with
  | int i => cases ra; exact ⟨i, rfl, Po.now h r (.int _)⟩
  | _ => exact h.elim
def opMin2 : List A → M A := op2 fun a b S => match a, b with
  | .int i, .int j => .ok (.int (if j < i then j else i)) S
  | _, _ => .bad
theorem f_min2 {K : PySem.W.Frag} : OpN K (fun xs H Q => ∃ i j, xs = [.int i, .int j] ∧ Q (.int (if j < i then j else i)) H) opMin2 := by
  refine f_2 fun w S σ W a b v u Q r ra rb h => ?_
  cases a with
  | int i =>
    cases b with
    | int j => cases ra; cases rb; exact ⟨i, j, rfl, Po.now h r (.int _)⟩
    | _ => exact h.elim
  | _ => cases b <;> exact h.elim
def intsOf : List A → Option (List Int)
  | [] => some []
  | .int i :: r => (intsOf r).map (i :: ·)
  | _ :: _ => none
theorem ints_ok {K : PySem.W.Frag} {F : Hp} {m : List Addr} {xs : List A} {ns : List Int} {vs : List V} (r : RAs K F m xs vs) (h : intsOf xs = some ns) : vs = ns.map V.int := by
  induction xs generalizing ns vs with
  | nil => cases h; cases r; rfl
  | cons x xs ih =>
    cases r with
    | cons h1 h2 =>
      cases x with
      | int i =>
        simp only [intsOf, Option.map_eq_some_iff] at h
        obtain ⟨ms, e, rfl⟩ := h
        cases h1
        rw [ih h2 e]; rfl
      | _ => cases h
def opSum : List A → M A := op1 fun a S => match lstAt S a with
  | some xs => (match intsOf xs with
    | some ns => .ok (.int ns.sum) S
    | none => .bad)
  | none => .bad
theorem f_sum {K : PySem.W.Frag} : OpN K (rSum K) opSum := by
  refine f_1 fun w S σ W a v Q r ra h => ?_
  cases e : lstAt S a with
  | none => rw [e] at h; exact h.elim
  | some xs =>
    simp only [e] at h
    cases e2 : intsOf xs with
    | none => rw [e2] at h; exact h.elim
    | some ns =>
      rw [e2] at h
      obtain ⟨p, us, rfl, h1, h2⟩ := lstAt_ok r ra e
      have := ints_ok h2 e2
      subst this
      exact ⟨p, ns, rfl, h1, Po.now h r (.int _)⟩
/-! ### isinstance -/
def tyA (S : Store) : A → Option String
  | .non => some "NoneType" | .bl _ => some "bool" | .int _ => some "int" | .str _ => some "str"
  | .tup _ => some "tuple" | .lst _ => some "list" | .dic _ => some "dict"
  | .ref n => (match S[n]? with
    | some (.lst _) => some "list"
    | some (.dic _) => some "dict"
    | _ => none)
  | .fn _ => none
theorem tyA_ok {K : PySem.W.Frag} {w : Wd} {S : Store} {a : A} {v : V} {t : String} (r : Rel K w S) (ra : RA K w.F w.m a v) (h : tyA S a = some t) : TyX K w.H v (.type t) := by
  have rdL : ∀ p vs, Rd w.H p (.lst vs) → TyX K w.H (.ref p) (.type "list") := fun p vs h => h.elim (fun h => .base (.lst h)) fun ⟨o, h⟩ => .base (.frz h)
  have rdT : ∀ p vs, Rd w.H p (.tup vs) → TyX K w.H (.ref p) (.type "tuple") := fun p vs h => h.elim (fun h => .base (.tup h)) fun ⟨o, h⟩ => .fTuple h
  have rdD : ∀ p vs, Rd w.H p (.dK vs) → TyX K w.H (.ref p) (.type "dict") := fun p vs h => h.elim (fun h => .base (.dK h)) fun ⟨o, h⟩ => .fDict h
  cases a with
  | non => cases h; cases ra; exact .base .non
  | bl b => cases h; cases ra; exact .base (.bl b)
  | int i => cases h; cases ra; exact .base (.int i)
  | str s => cases h; cases ra; exact .base (.str s)
  | tup xs =>
    cases h
    cases ra with
    | tup h1 h2 => exact h1.elim (fun h => rdT _ _ (r.fz _ _ h)) fun ⟨o, its, n, e, c, _⟩ => .kTuple e c
  | lst xs =>
    cases h
    cases ra with
    | lst h1 h2 => exact h1.elim (fun h => rdL _ _ (r.fz _ _ h)) fun ⟨o, its, n, e, c, _⟩ => .kList e c
  | dic xs =>
    cases h
    cases ra with
    | dic h1 h2 => exact rdD _ _ (r.fz _ _ h1)
  | ref n =>
    cases ra with
    | @ref _ p hp =>
      replace h : (match S[n]? with | some (.lst _) => some "list" | some (.dic _) => some "dict" | _ => none) = some t := h
      have hn : n < S.length := by rw [← r.ln]; exact (List.getElem?_eq_some_iff.mp hp).1
      obtain ⟨q, hq, _, ho⟩ := r.ob n S[n] (List.getElem?_eq_getElem hn)
      rw [hp] at hq; cases hq
      rw [List.getElem?_eq_getElem hn] at h
      cases e : S[n] with
      | lst ys => rw [e] at h ho; cases h; obtain ⟨vs, h1, h2⟩ := ho; exact rdL _ _ (.inl h1)
      | dic ys => rw [e] at h ho; cases h; obtain ⟨vs, h1, h2⟩ := ho; exact rdD _ _ (.inl h1)
      | ins _ _ => rw [e] at h; cases h
      | dead => rw [e] at h; cases h
  | fn _ => cases h
def isiB (t T : String) : Bool := t == T || (t == "bool" && T == "int")
def opIsi (T : String) (a : A) : M A := fun S => match tyA S a with
  | some t => .ok (.bl (isiB t T)) S
  | none => .bad
/-- the built-in classes that are asked for -/
def askTys : List String := ["tuple", "list", "dict", "int", "str", "bool"]
def hasTys : List String := ["NoneType", "bool", "int", "str", "tuple", "list", "dict"]
theorem isi_tab : ∀ T ∈ askTys, ∀ t ∈ hasTys, kitB t T = some (isiB t T) := by decide +kernel
theorem tyA_mem {S : Store} {a : A} {t : String} (h : tyA S a = some t) : t ∈ hasTys := by
  unfold tyA at h
  cases a with
  | ref n =>
    simp only at h
    split at h <;> (cases h <;> decide)
  | fn _ => cases h
  | _ => cases h; decide
section
variable {X : Cx} {W : WX} {k : Nat} {a b c e : Expr} {es : List Expr} {ca cb cc co : C} {cl : CL} {pos p p2 apos : Pos}
theorem e_isi {T : Str} {tn : String} (hT : tn ∈ askTys) (hg : Gl X "isinstance") (hm : X.mg "isinstance" = none) (hg2 : Gl X T) (hm2 : X.mg T = none) (hv2 : bootBuiltins T = some (.type tn)) (ha : PE X a (tC X.K W ca)) (hn : T ≠ "__name__" := by decide) (hd : (T == ("__debug__" : Str)) = false := by decide)
    (he : starEach [a, .Name T p2] X.env = (false, eval a X.env) :: starEach [.Name T p2] X.env := by rfl) (he2 : starEach [.Name T p2] X.env = (false, eval (.Name T p2) X.env) :: starEach [] X.env := by rfl) (hpl : (backTo pos (starEach [.Name T p2] X.env)).any (·.1) = false := by rfl) :
    PE X (.Call (.Name "isinstance" p) [a, .Name T p2] [] pos) (tC X.K W (c1 (opIsi tn) ca)) := by
  refine PE.weak (pe_callB call_isi hg hm (by decide +kernel) (pa_cons ha (pa_cons (pe_bltn (v := .ty tn) hg2 hm2 hv2 rfl hn hd) pa_nil he2) he) (by decide) (by decide) he hpl) fun σ H Q ⟨w, e, S, eH, r, re, h⟩ => ?_
  refine ⟨w, e, S, eH, r, re, Po.bnd h fun x S1 w1 v e1 r1 q1 h1 => ?_⟩
  show rIsi X.K [v, .ty tn] w1.H Q
  unfold opIsi at h1
  cases e2 : tyA S1 x with
  | none => rw [e2] at h1; exact h1.elim
  | some t =>
    rw [e2] at h1
    exact ⟨v, .ty tn, .type t, .type tn, isiB t tn, rfl, .ty tn, tyA_ok r1 q1 e2, kit_ty (isi_tab tn hT t (tyA_mem e2)), Po.now h1 r1 (.bl _)⟩
/-! ### methods of built-in things -/
/-- o.m(..) of a thing of a type -/
def isTy (T : String) (a : A) : M Unit := fun S => match T with
  | "list" => (match lstAt S a with
    | some _ => .ok () S
    | none => .bad)
  | _ => .bad
def cMt (T : String) (f : A → List A → M A) (o : C) (as : CL) : C := fun e => bnd (o e) fun x => bnd (isTy T x) fun _ => bnd (as e) fun ys => f x ys
def OpM (K : PySem.W.Frag) (r : V → List V → Hp → VK → Prop) (f : A → List A → M A) : Prop :=
  ∀ (w : Wd) (S : Store) (σ : SV) (W : WX) (a : A) (as : List A) (x : V) (xs : List V) (Q : VK), Rel K w S → RA K w.F w.m a x → RAs K w.F w.m as xs → Po K W (rA K) w σ (f a as S) Q → r x xs w.H Q
theorem e_bm {T id : String} {name : Str} {r : V → List V → Hp → VK → Prop} {f : A → List A → M A} (pa : PlainAttrs T) (slot : Slot T name id) (hty : typeOf (.builtin id) = pure (.type "method_descriptor")) (hm : MtR X id r) (hf : OpM X.K r f) (ho : PE X a (tC X.K W co)) (ha : PA X (e :: es) (tL X.K W cl))
    (hbase : attributeBase a name X.env (eval a X.env) = eval a X.env := by rfl)
    (hfew : ((backTo pos (starEach (e :: es) X.env)).all (fun x => !x.1) && (backToKw pos (keywordEach [] X.env)).all (fun x => x.1.isSome)
      && decide ((e :: es).length + ([] : List Keyword).length + (if ([] : List Keyword).isEmpty then 0 else 1) < 30)) = true := by rfl)
    (hline : (apos.endLine == pos.line) = true := by rfl) (hs : starEach (e :: es) X.env = (false, eval e X.env) :: starEach es X.env := by rfl) (hplain : (backTo pos (starEach es X.env)).any (·.1) = false := by rfl) :
    PE X (.Call (.Attribute a name apos) (e :: es) [] pos) (tC X.K W (cMt T f co cl)) := by
  refine PE.weak (pe_bm pa slot hty hm ho ha hbase hfew hline hs hplain) fun σ H Q ⟨w, e, S, eH, r, re, h⟩ => ?_
  refine ⟨w, e, S, eH, r, re, Po.bnd h fun x S1 w1 v e1 r1 q1 h1 => ?_⟩
  unfold isTy at h1
  split at h1
  · cases e2 : lstAt S1 x with
    | none => rw [bnd_bad (by simp [e2])] at h1; exact h1.elim
    | some xs =>
      rw [bnd_ok (a := ()) (S' := S1) (by simp [e2])] at h1
      obtain ⟨p, us, rfl, h3, h4⟩ := lstAt_ok r1 q1 e2
      refine ⟨.inl ⟨rfl, us, h3⟩, w1, e, S1, rfl, r1, re.ext e1, Po.bnd h1 fun ys S2 w2 vs e2 r2 q2 h2 => ?_⟩
      exact hf w2 S2 σ W x ys _ vs Q r2 (q1.ext e2) q2 h2
  · rw [bnd_bad rfl] at h1; exact h1.elim
/-- xs.append(y): a thing with a handle -/
def opApp (a : A) (as : List A) : M A := fun S => match a, as with
  | .ref n, [y] => (match S[n]? with
    | some (.lst xs) => if xs.length < LINE then .ok .non (S.set n (.lst (xs ++ [y]))) else .bad
    | _ => .bad)
  | _, _ => .bad
theorem at_ref {K : PySem.W.Frag} {w : Wd} {S : Store} {n : Nat} {v : V} {o : O} (r : Rel K w S) (ra : RA K w.F w.m (.ref n) v) (h : S[n]? = some o) : ∃ p, v = .ref p ∧ w.m[n]? = some p ∧ OR K w p o := by
  cases ra with
  | @ref _ p hp =>
    obtain ⟨q, hq, _, ho⟩ := r.ob n o h
    rw [hp] at hq; cases hq
    exact ⟨p, rfl, hp, ho⟩
/-- a list with a handle is changed -/
theorem Po.putL {K : PySem.W.Frag} {W : WX} {w : Wd} {S : Store} {σ : SV} {n : Nat} {p : Addr} {xs : List A} {vs : List V} {a : A} {v : V} {Q : VK} (r : Rel K w S) (hp : w.m[n]? = some p) (rs : RAs K w.F w.m xs vs) (ra : RA K w.F w.m a v) (h : Po K W (rA K) w σ (.ok a (S.set n (.lst xs))) Q) : Q v (upd w.H p (.lst vs)) := by
  have ex := Wd.put_ext (u := .lst vs) r (List.mem_of_getElem? hp)
  exact h (w.put p (.lst vs)) v ex (Wd.put_rel r hp ⟨vs, by show upd w.H p _ p = _; exact upd_same, rs.ext ex⟩) (ra.ext ex)
theorem Po.putD {K : PySem.W.Frag} {W : WX} {w : Wd} {S : Store} {σ : SV} {n : Nat} {p : Addr} {xs : List (Key × A)} {vs : List (Key × V)} {a : A} {v : V} {Q : VK} (r : Rel K w S) (hp : w.m[n]? = some p) (rs : RAk K w.F w.m xs vs) (ra : RA K w.F w.m a v) (h : Po K W (rA K) w σ (.ok a (S.set n (.dic xs))) Q) : Q v (upd w.H p (.dK vs)) := by
  have ex := Wd.put_ext (u := .dK vs) r (List.mem_of_getElem? hp)
  exact h (w.put p (.dK vs)) v ex (Wd.put_rel r hp ⟨vs, by show upd w.H p _ p = _; exact upd_same, rs.mono ex.fr ex.mp⟩) (ra.ext ex)
theorem f_app {K : PySem.W.Frag} : OpM K rAppend opApp := by
  intro w S σ W a as x xs Q r ra ras h
  unfold opApp at h
  split at h
  · obtain ⟨v, rfl, rv⟩ := ras.one
    split at h
    · rename_i n y ys hs
      split at h
      · rename_i hz
        obtain ⟨p, rfl, hp, us, h1, h2⟩ := at_ref r ra hs
        exact ⟨p, us, v, rfl, rfl, h1, by rw [← h2.length, line_eq]; exact hz, Po.putL r hp (h2.app (.cons rv .nil)) .non h⟩
      · exact h.elim
    · exact h.elim
  · exact h.elim
theorem e_append (ho : PE X a (tC X.K W co)) (ha : PA X [e] (tL X.K W cl))
    (hbase : attributeBase a "append" X.env (eval a X.env) = eval a X.env := by rfl)
    (hfew : ((backTo pos (starEach [e] X.env)).all (fun x => !x.1) && (backToKw pos (keywordEach [] X.env)).all (fun x => x.1.isSome)
      && decide ([e].length + ([] : List Keyword).length + (if ([] : List Keyword).isEmpty then 0 else 1) < 30)) = true := by rfl)
    (hline : (apos.endLine == pos.line) = true := by rfl) (hs : starEach [e] X.env = (false, eval e X.env) :: starEach [] X.env := by rfl) (hplain : (backTo pos (starEach [] X.env)).any (·.1) = false := by rfl) :
    PE X (.Call (.Attribute a "append" apos) [e] [] pos) (tC X.K W (cMt "list" opApp co cl)) :=
  e_bm PySem.F.plainAttrs_list PySem.F.slot_list_append PySem.F.type_list_append mt_append f_app ho ha hbase hfew hline hs hplain
/-! set item -/
def opSet (o i v : A) : M A := fun S => match o with
  | .ref n => (match S[n]? with
    | some (.lst xs) => (match i with
      | .int j => (match ixN xs.length j with
        | some q => .ok .non (S.set n (.lst (xs.set q v)))
        | none => .bad)
      | _ => .bad)
    | some (.dic kvs) => (match keyOf i with
      | some q => if kvs.length < LINE then .ok .non (S.set n (.dic (putA kvs q v))) else .bad
      | none => .bad)
    | _ => .bad)
  | _ => .bad
def rSetA : TSet := fun o i v H Q => rSetL o i v H Q ∨ rSetD o i v H Q
theorem or_set (O : Cok X W k) : PSet X rSetA := PSet.or set_list (set_dict (by have := O.hu; omega))
theorem f_set {K : PySem.W.Frag} : Op3 K rSetA opSet := by
  intro w S σ W a b c x y z Q r ra rb rc h
  unfold opSet at h
  split at h
  · split at h
    · rename_i n xs hs
      obtain ⟨p, rfl, hp, us, h1, h2⟩ := at_ref r ra hs
      cases b with
      | int j =>
        cases rb
        simp only at h
        cases e : ixN xs.length j with
        | none => rw [e] at h; exact h.elim
        | some q =>
          rw [e] at h
          exact .inl ⟨p, us, j, q, rfl, rfl, h1, by rw [← h2.length]; exact e, Po.putL (Q := fun _ H => Q H) (v := .non) r hp (h2.set rc q) .non h⟩
      | _ => exact h.elim
    · rename_i n kvs hs
      obtain ⟨p, rfl, hp, us, h1, h2⟩ := at_ref r ra hs
      cases e : keyOf b with
      | none => simp only [e] at h; exact h.elim
      | some q =>
        simp only [e] at h
        split at h
        · rename_i hz
          have := keyOf_ok rb e
          subst this
          exact .inr ⟨p, _, rfl, DPut.k h1 (by rw [← h2.length, line_eq]; exact hz), Po.putD (Q := fun _ H => Q H) (v := .non) r hp (h2.put q rc) .non h⟩
        · exact h.elim
    · exact h.elim
  · exact h.elim
/-! dict.get -/
def cGet1 (d : C) (k : C) : C := fun e => bnd (d e) fun x S => match dicAt S x with
  | some _ => bnd (k e) (fun y S => match dicAt S x, keyOf y with
    | some kvs, some j => .ok ((getK kvs j).getD .non) S
    | _, _ => .bad) S
  | none => .bad
theorem getD_ok {K : PySem.W.Frag} {F : Hp} {m : List Addr} {xs : List (Key × A)} {vs : List (Key × V)} (r : RAk K F m xs vs) (k : Key) {a : A} {v : V} (ra : RA K F m a v) : RA K F m ((getK xs k).getD a) ((valV vs k).getD v) := by
  have h := getK_ok r k
  cases e : getK xs k with
  | some b => rw [e] at h; obtain ⟨u, h1, h2⟩ := h; rw [h1]; exact h2
  | none => rw [e] at h; rw [h]; exact ra
theorem e_get1 (O : Cok X W k) (ho : PE X a (tC X.K W ca)) (he : PE X e (tC X.K W cb)) (m : M1 X a "get" apos e pos := by exact ⟨rfl, rfl, rfl, rfl⟩) : PE X (.Call (.Attribute a "get" apos) [e] [] pos) (tC X.K W (cGet1 ca cb)) := by
  refine PE.weak (pe_dget1 (by have := O.hu; omega) ho he m) fun σ H Q ⟨w, e, S, eH, r, re, h⟩ => ?_
  refine ⟨w, e, S, eH, r, re, Po.bnd h fun x S1 w1 v e1 r1 q1 h1 => ?_⟩
  cases e2 : dicAt S1 x with
  | none => simp only [e2] at h1; exact h1.elim
  | some kvs =>
    simp only [e2] at h1
    obtain ⟨p, us, rfl, h3, h4⟩ := dicAt_ok r1 q1 e2
    refine ⟨p, rfl, .inl ⟨us, h3⟩, w1, e, S1, rfl, r1, re.ext e1, Po.bnd h1 fun y S2 w2 u e3 r2 q2 h2 => ?_⟩
    cases e4 : dicAt S2 x with
    | none => simp only [e4] at h2; exact h2.elim
    | some kvs2 =>
      cases e5 : keyOf y with
      | none => simp only [e4, e5] at h2; exact h2.elim
      | some j =>
        simp only [e4, e5] at h2
        obtain ⟨p', us', ep, h5, h6⟩ := dicAt_ok r2 (q1.ext e3) e4
        cases ep
        have := keyOf_ok q2 e5
        subst this
        exact ⟨valV us' j, .inl ⟨us', j, h5, rfl, rfl⟩, Po.now h2 r2 (getD_ok h6 j .non)⟩
/-! texts -/
def cM1 (f : Str → A → M A) (o c : C) : C := fun e => bnd (o e) fun x => match x with
  | .str s => bnd (c e) fun y => f s y
  | _ => bad
theorem e_m1 {r : V → List V → Hp → VK → Prop} {f : Str → A → M A} (hf : ∀ (w : Wd) (S : Store) (σ : SV) (W : WX) (s : Str) (a : A) (x : V) (Q : VK), Rel X.K w S → RA X.K w.F w.m a x → Po X.K W (rA X.K) w σ (f s a S) Q → r (.str s) [x] w.H Q) {t : TE → TE → TE}
    (h : PE X e (tM1 r (tC X.K W ca) (tC X.K W cb))) : PE X e (tC X.K W (cM1 f ca cb)) := by
  refine PE.weak h fun σ H Q ⟨w, e, S, eH, r, re, h⟩ => ?_
  refine ⟨w, e, S, eH, r, re, Po.bnd h fun x S1 w1 v e1 r1 q1 h1 => ?_⟩
  cases x with
  | str s =>
    cases q1
    exact ⟨⟨s, rfl⟩, w1, e, S1, rfl, r1, re.ext e1, Po.bnd h1 fun y S2 w2 u e2 r2 q2 h2 => hf w2 S2 σ W s y u Q r2 q2 h2⟩
  | _ => exact h1.elim
def opSplit (s : Str) (b : A) : M A := fun S => match b with
  | .str t => if (t.length == 0) = false ∧ s.length + 2 ≤ LINE then .ok (.lst ((Txt.split s t).map .str)) S else .bad
  | _ => .bad
theorem strs_ok {K : PySem.W.Frag} {F : Hp} {m : List Addr} : ∀ xs : List Str, RAs K F m (xs.map .str) (xs.map .str)
  | [] => .nil
  | x :: xs => .cons (.str x) (strs_ok xs)
theorem e_split (ho : PE X a (tC X.K W ca)) (he : PE X e (tC X.K W cb)) (hs : starEach [e] X.env = [(false, eval e X.env)] := by rfl) (hbase : attributeBase a "split" X.env (eval a X.env) = eval a X.env := by rfl) (hline : (apos.endLine == pos.line) = true := by rfl) :
    PE X (.Call (.Attribute a "split" apos) [e] [] pos) (tC X.K W (cM1 opSplit ca cb)) := by
  refine e_m1 (t := fun x _ => x) (fun w S σ W s b x Q r ra h => ?_) (pe_split ho he hs hbase hline)
  unfold opSplit at h
  cases b with
  | str t =>
    cases ra
    simp only at h
    split at h
    · rename_i hz
      exact ⟨s, t, rfl, rfl, hz.1, by rw [line_eq]; exact hz.2, fun p hp => Po.frzL r (strs_ok _) h p hp⟩
    · exact h.elim
  | _ => exact h.elim
/-! tuple(range(n)) -/
def opRgT (a : A) : M A := fun S => match a with
  | .int n => if 0 ≤ n ∧ n ≤ 16777216 then .ok (.tup ((List.range n.toNat).map fun k => .int (k : Nat))) S else .bad
  | _ => .bad
theorem rg_ok {K : PySem.W.Frag} {F : Hp} {m : List Addr} (n : Nat) : RAs K F m ((List.range n).map fun k => A.int (k : Nat)) ((List.range n).map fun k => V.int (k : Nat)) := by
  generalize List.range n = l
  induction l with
  | nil => exact .nil
  | cons x l ih => exact .cons (.int _) ih
theorem e_tupRg1 {x : Pos} (hc : X.calm = true) (hg : Gl X "tuple") (hm : X.mg "tuple" = none) (hg2 : Gl X "range") (hm2 : X.mg "range" = none) (ha : PE X a (tC X.K W ca)) (na : starEach [a] X.env = (false, eval a X.env) :: starEach [] X.env := by rfl)
    (nb : starEach [.Call (.Name "range" p2) [a] [] x] X.env = (false, eval (.Call (.Name "range" p2) [a] [] x) X.env) :: starEach [] X.env := by rfl) :
    PE X (.Call (.Name "tuple" p) [.Call (.Name "range" p2) [a] [] x] [] pos) (tC X.K W (c1 opRgT ca)) := by
  refine PE.weak (pe_tupRg hc hg hm (prg_1 hg2 hm2 ha na) nb) fun σ H Q ⟨w, e, S, eH, r, re, h⟩ => ?_
  refine ⟨w, e, S, eH, r, re, Po.bnd h fun x S1 w1 v e1 r1 q1 h1 => ?_⟩
  cases x with
  | int n =>
    cases q1
    unfold opRgT at h1
    simp only at h1
    split at h1
    · rename_i hz
      refine ⟨n, rfl, RgOk.of_le (Int.le_refl 0) hz.2 (by omega) hz.1, fun q hq => ?_⟩
      have e3 : rgV 0 n = (List.range n.toNat).map fun k => V.int (k : Nat) := by
        unfold rgV
        rw [Int.sub_zero]
        refine List.map_congr_left fun k _ => ?_
        rw [Int.zero_add]
      rw [e3]
      exact Po.frzT r1 (rg_ok _) h1 q hq
    · exact h1.elim
  | _ => exact h1.elim
end
end VM
end
section
set_option Elab.async false
set_option linter.all false
set_option maxRecDepth 100000
set_option maxHeartbeats 4000000
set_option autoImplicit false
/-! len(set(xs)), xs a list of texts. -/
namespace VM
open PySem PySem.Spec PyProof.Rows L2

/-- how many different texts stand among the first i -/
def dn (xs : List Str) : Nat → Nat
  | 0 => 0
  | i + 1 => if (xs.take i).any (· == xs.getD i Str.empty) then dn xs i else dn xs i + 1
theorem dn_le (xs : List Str) : ∀ i, dn xs i ≤ i
  | 0 => Nat.le_refl _
  | i + 1 => by
    have := dn_le xs i
    unfold dn
    split <;> omega
section
variable {prog : Program} {w : World} {A : Around} {R : Result → Shared → Prop} {I : Addr} {fp wr : List Addr} {G : Array GenState → Array GenState → Prop} {n : Nat} {P : Nat → Value → Prop} {St : Nat → Shared → Prop}
theorem loopD (W : WalksS prog w A.in1 I fp wr G n P St) (S : Addr) (hSf : S ∉ fp) (xs : List Str) (hsz : xs.length = n) (hb : n + 1 < scanBound)
    (hval : ∀ i v, P i v → ∃ t, v = .str (xs.getD i Str.empty) t) :
    ∀ (k i : Nat) (s : Shared), n - i = k → i ≤ n → St i s →
      s.heap.SetOf (PySem.strKind prog w) S (fun k' => (xs.take i).any (· == k')) (dn xs i) →
      (∀ s', Moved (S :: wr) G s s' → s'.heap.SetOf (PySem.strKind prog w) S (fun k' => (xs.take n).any (· == k')) (dn xs n) → R (.ok (.ret .none)) s') →
      codeAny (model prog w) A (.builtin "set.update.loop" ⟨[.ref S, .ref I], []⟩) R s := by
  have hSw : S ∉ wr := fun h => hSf (W.sub _ h)
  have hsub : ∀ b ∈ wr, b ∈ S :: wr := fun b hb => List.mem_cons_of_mem _ hb
  intro k
  induction k with
  | zero =>
    intro i s hk hi hst ⟨o, es, ep, t, ho, rest⟩ hR
    obtain rfl : i = n := by omega
    refine codeAny_builtin PyProof.Rows.F.entry_set_update_loop ?_
    rw [Around.under_plainId PyProof.Rows.F.plain_set_update_loop _]
    refine wpAny_bind (W.done s _ _ hst fun s' hm => ?_)
    exact wpAny_pure (hR s' (hm.mono hsub) ⟨o, es, ep, t, hm.heap S _ hSw ho, rest⟩)
  | succ k ih =>
    intro i s hk hi hst ⟨o, es, ep, tb, ho, rest⟩ hR
    have hlt : i < n := by omega
    refine codeAny_builtin PyProof.Rows.F.entry_set_update_loop ?_
    rw [Around.under_plainId PyProof.Rows.F.plain_set_update_loop _]
    refine wpAny_bind (W.item i s _ _ hlt hst fun v s' hP hst' hm => ?_)
    obtain ⟨t, rfl⟩ := hval i v hP
    refine wpAny_bind (wpAny_holding ?_)
    unfold setAdd
    refine wpAny_holding ?_
    refine wpAny_bind ((PySem.strKind prog w).pyHash (k := xs.getD i Str.empty) (strKind_is _ _ _ _) ?_)
    have hle := dn_le xs i
    refine wpAny_setAddHashed_of (knd := PySem.strKind prog w) (s := { s' with toks := s'.toks + 1 }) (strKind_is _ _ _ _) rfl ⟨o, es, ep, tb, hm.heap S _ hSw ho, rest⟩ (by omega) fun h' hsb hS2 => ?_
    have hSi : h'.SetOf (PySem.strKind prog w) S (fun k' => (xs.take (i + 1)).any (· == k')) (dn xs (i + 1)) := by
      refine SetOf_congr hS2 (fun k' => ?_) rfl
      have hix : i < xs.length := by omega
      have e : xs.take (i + 1) = xs.take i ++ [xs.getD i Str.empty] := by
        rw [List.take_add_one, List.getElem?_eq_getElem hix, List.getD_eq_getElem?_getD, List.getElem?_eq_getElem hix]; rfl
      rw [e, List.any_append, List.any_cons, List.any_nil, Bool.or_false]
      congr 1
      by_cases z : k' = xs.getD i Str.empty
      · subst z; simp
      · have hb : (xs.getD i Str.empty == k') = false := beq_eq_false_iff_ne.mpr fun h => z h.symm
        rw [hb]; simpa using z
    refine wpAny_pure ⟨plainId_quiet PyProof.Rows.F.plain_set_update_loop _, ih (i + 1) _ (by omega) hlt (W.frame _ s' _ _ hst' (Nat.le_succ _) fun b hb o e => ?_) hSi fun s'' hm'' hS'' => ?_⟩
    · rw [hsb.2 b (fun h : b = S => hSf (by rw [← h]; exact hb))]; exact e
    · refine hR s'' (Moved.trans W.gtrans ((hm.mono hsub).then_heap (Nat.le_succ _) fun b o hb e => ?_) hm'') hS''
      rw [hsb.2 b (fun h : b = S => hb (by rw [h]; exact List.mem_cons_self))]; exact e
end
section
variable {prog : Program} {w : World} {A : Around} {E : Value → Shared → Prop} {s : Shared}
/-- an empty set as it is made -/
abbrev set0 (led : Bool) : Obj := { cls := .type "set", dict := none, data := .set #[] 0 (.fresh 0 0 led) }
set_option maxHeartbeats 8000000 in
/-- set(xs) of a list of texts -/
theorem call_setD {l : Addr} {items : Array Value} {xs : List Str} {Q : Value → Shared → Prop} (hh : A.handled = none) (hl : s.heap.IsList l items) (hi : StrsAre items.toList xs) (hb : xs.length + 1 < scanBound)
    (h : ∀ (h' : Heap) (tk : Nat), h'.SetOf (PySem.strKind prog w) s.heap.objs.size (fun k' => (xs.take items.size).any (· == k')) (dn xs items.size) →
      (∀ b o, b < s.heap.objs.size → s.heap.get? b = some o → h'.get? b = some o) → Q (.ref s.heap.objs.size) { s with heap := h', toks := tk }) :
    wpAny (model prog w) A (call (.type "set") [.ref l]) Q E s := by
  obtain ⟨c, tl, hmro⟩ := PySem.F.called_set.mro
  have hmade := PySem.F.called_set.made
  have hsub := PySem.F.called_set.sub
  refine wpAny_call (codeAny_of_tree ?_)
  show wpAny _ _ (callAny (.type "set") _) _ _ _
  refine wpAny_pure ⟨Code.quiet_builtin _ (by decide +kernel), codeAny_builtin PySem.F.entry_type_call ?_⟩
  rw [Around.under_plain (weight_type_call_type "set" [.ref l] []) rfl]
  have h1 := PySem.F.called_set.notType
  have h2 := PySem.F.called_set.canCreate
  have hct := PySem.F.typeCall_set_1 (.ref l)
  repeat (any_goals (first | assumption | wp_step))
  refine codeAny_mono (code_set_new_1 (.ref l) (E := E) (Q₁ := fun obj s₁ => ∃ led : Bool, obj = .ref s.heap.objs.size ∧ s₁ = { s with heap := s.heap.push (set0 led) }) fun led => ⟨led, rfl, rfl⟩) fun r s₁ hr => ?_
  cases r with
  | error e => exact hr
  | ok fl =>
    cases fl with
    | ret obj =>
      obtain ⟨led, rfl, rfl⟩ := hr
      have hS : (s.heap.push (set0 led)).get? s.heap.objs.size = some (set0 led) := Heap.get?_push_size _ rfl
      have hT : Shared.TypeIs { s with heap := s.heap.push (set0 led) } (.ref s.heap.objs.size) "set" := ⟨_, hS, rfl⟩
      have hli := PySem.F.called_set.init.lookup
      have hbi := PySem.F.called_set.init.bind (.ref s.heap.objs.size)
      repeat (any_goals (first | assumption | wp_step))
      refine codeAny_mono (codeAny_call_builtin (R := wants (fun r s₂ => r = .none ∧ ∃ h' tk, s₂ = { s with heap := h', toks := tk } ∧
          h'.SetOf (PySem.strKind prog w) s.heap.objs.size (fun k' => (xs.take items.size).any (· == k')) (dn xs items.size) ∧
          (∀ b o, b < s.heap.objs.size → s.heap.get? b = some o → h'.get? b = some o)) E) PySem.F.called_set.init.plain PySem.F.entry_set_init (check_set_init_1 hT ?_)) fun r₂ s₂ hr₂ => ?_
      · obtain ⟨⟨ocls, odict, odata, oslots⟩, hol, hcl, nl, hdl⟩ := hl
        simp only at hcl hdl
        subst hcl; subst hdl
        have hol' : (s.heap.push (set0 led)).get? l = some { cls := .type "list", dict := odict, data := .seq items nl, slots := oslots } := Heap.get?_push_of_some _ hol
        have hsls := PySem.F.sub_list_set
        have hslf := PySem.F.sub_list_frozenset
        have hne : (Value.type "list" == Value.type "dict") = false := by decide
        have hl1 : (s.heap.push (set0 led)).IsList l items := ⟨_, hol', rfl, nl, rfl⟩
        unfold Builtin.«set.__init__» noKeywords Builtin.Frozenset.updateFrom
        generalize hPI : pyIter = PI
        wp_walk
        subst hPI
        refine wpAny_pyIter_list hl1 ?_
        refine wpAny_bind (wpAny_runValue ?_)
        have hlS : l < s.heap.objs.size := Heap.lt_size hol
        have hh3 : A.in1.in1.in1.handled = none := by simp [hh]
        have hsz1 : (s.heap.push (set0 led)).objs.size = s.heap.objs.size + 1 := Heap.size_push ..
        have hneI : l ≠ (s.heap.push (set0 led)).objs.size := by rw [hsz1]; exact Nat.ne_of_lt (Nat.lt_succ_of_lt hlS)
        have hSf : s.heap.objs.size ∉ [(s.heap.push (set0 led)).objs.size, l] := by
          rw [hsz1]; simp only [List.mem_cons, List.not_mem_nil, or_false, not_or]
          exact ⟨by omega, Nat.ne_of_gt hlS⟩
        have hsz : xs.length = items.size := by rw [← StrsAre.len_eq hi, Array.length_toList]
        refine loopD ((Walks.list hh3 _ l hneI items).toS) s.heap.objs.size hSf xs hsz (by rw [← hsz]; exact hb)
          (fun i v hv => SS.strs_at hi i v (by rw [Array.getElem?_toList]; exact hv)) (items.size - 0) 0 _ (by omega) (Nat.zero_le _)
          ⟨⟨_, Heap.get?_push_size _ rfl, rfl, rfl⟩, (hl1.push _)⟩ ?hS0 ?hR
        case hS0 =>
          have hget : ((s.heap.push (set0 led)).push { cls := .type "list_iterator", data := .fields #[.ref l, .int 0 0] }).get? s.heap.objs.size = some (set0 led) := Heap.get?_push_of_some _ hS
          exact PyProof.Rows.SetOf_congr ((PyProof.Rows.setObjOf_fresh (knd := PySem.strKind prog w) led).setOf hget (by unfold scanBound; omega)) (fun _ => rfl) rfl
        case hR =>
          intro s' hm hS'
          obtain ⟨h', g', d', tk', os'⟩ := s'
          obtain rfl : g' = s.gens := hm.gens
          obtain rfl : d' = s.drawn := hm.drawn
          obtain rfl : os' = s.os := hm.os
          refine wpAny_pure ?_
          refine wpAny_pure ⟨rfl, h', tk', rfl, hS', fun b o hb e => ?_⟩
          exact hm.heap b o (by rw [hsz1]; simp only [List.mem_cons, List.not_mem_nil, or_false, not_or]; exact ⟨Nat.ne_of_lt hb, Nat.ne_of_lt (Nat.lt_succ_of_lt hb)⟩) (Heap.get?_push_of_some _ (Heap.get?_push_of_some _ e))
      · cases r₂ with
        | error e => exact hr₂
        | ok fl₂ =>
          cases fl₂ with
          | ret r =>
            obtain ⟨rfl, h', tk, rfl, hS', hk'⟩ := hr₂
            repeat (any_goals (first | assumption | wp_step))
            exact h _ _ hS' hk'
          | _ => exact hr₂.elim
    | _ => exact hr.elim
end
/-- the texts of a list -/
def strsOf : List A → Option (List Str)
  | [] => some []
  | .str x :: r => (match strsOf r with
    | some xs => some (x :: xs)
    | none => none)
  | _ :: _ => none
theorem strsOf_ok {K : PySem.W.Frag} {F : Hp} {m : List Addr} : ∀ {as : List A} {vs : List V} {xs : List Str}, RAs K F m as vs → strsOf as = some xs → vs = xs.map .str
  | [], _, _, r, h => by cases h; cases r; rfl
  | a :: as, _, xs, r, h => by
    cases r with
    | cons h1 h2 =>
      cases a with
      | str x =>
        unfold strsOf at h
        cases e : strsOf as with
        | none => rw [e] at h; cases h
        | some ys =>
          rw [e] at h
          cases h
          cases h1
          rw [strsOf_ok h2 e]; rfl
      | _ => cases h
def opLenSet (a : A) : M A := fun S => match lstAt S a with
  | some as => (match strsOf as with
    | some xs => if xs.length < 4000 then .ok (.int (dn xs xs.length : Nat)) S else .bad
    | none => .bad)
  | none => .bad
section
variable {X : Cx} {W : WX} {k : Nat} {a : Expr} {ca : C} {p p2 q pos : Pos}
theorem e_lenSet (O : Cok X W k) (hg : Gl X "len") (hm : X.mg "len" = none) (hg2 : Gl X "set") (hm2 : X.mg "set" = none) (ha : PE X a (tC X.K W ca))
    (na : starEach [a] X.env = (false, eval a X.env) :: starEach [] X.env := by rfl) : PE X (.Call (.Name "len" p) [.Call (.Name "set" p2) [a] [] q] [] pos) (tC X.K W (c1 opLenSet ca)) := by
  refine ⟨fun pins s σ H Q I ⟨w, e, S, eH, r, re, h⟩ => ?_⟩
  refine Call_ (ld_blt I hg hm boot_len ?_)
  refine PyProof.Rows.callWith_builtin1 (PyProof.Rows.args_cons ?_ rfl) rfl rfl
  refine Call_ (ld_blt I hg2 hm2 boot_set ?_)
  have hx : tC X.K W ca σ H (fun x H1 => ∃ (l : Addr) (xs : List Str), x = .ref l ∧ SqL X.K H1 l (xs.map V.str) ∧ xs.length < 4000 ∧ Q (.int (dn xs xs.length : Nat)) H1) := by
    refine ⟨w, e, S, eH, r, re, Po.bnd h fun x S1 w1 v e1 r1 q1 h1 => ?_⟩
    unfold opLenSet at h1
    cases e2 : lstAt S1 x with
    | none => rw [e2] at h1; exact h1.elim
    | some as =>
      rw [e2] at h1
      obtain ⟨p, vs, rfl, s1, r2⟩ := lstAt_ok r1 q1 e2
      cases e3 : strsOf as with
      | none => simp only [e3] at h1; exact h1.elim
      | some xs =>
        simp only [e3] at h1
        split at h1
        · rename_i hz
          exact ⟨p, xs, rfl, by rw [← strsOf_ok r2 e3]; exact s1, hz, Po.now h1 r1 (.int _)⟩
        · exact h1.elim
  refine PyProof.Rows.callWith_type1 (PyProof.Rows.args_cons (thn (ha.run pins s σ H _ I hx) fun v s1 ⟨x, H1, I1, r1, q1⟩ => PyProof.Rows.args_nil ?_) na) na rfl
  obtain ⟨l, xs, rfl, hq, h1, q1⟩ := q1
  cases r1
  obtain ⟨its, r, pl, hz⟩ := I1.list hq
  refine call_setD (I1.ok.hd O.calm) pl.isList (xs := xs) (by simpa using strsAre_of r) (by unfold scanBound; omega) fun h' tk hS hk => ?_
  refine PyProof.Rows.args_nil ?_
  have hl : its.toArray.size = xs.length := by rw [List.size_toArray, ← r.length, List.length_map]
  rw [hl] at hS
  obtain ⟨o, es, ep, t, ho, hex, hd, _, _, _, hf, hn⟩ := hS
  have I2 : Inv X pins σ H1 { s1 with heap := h', toks := tk } := I1.kept fun b o e => hk b o (Heap.lt_size e) e
  have := dn_le xs xs.length
  exact call_len_set ho hex hd hf (by rw [hn] <;> omega) ⟨.int (dn xs xs.length : Nat), H1, I2.tok _, ⟨_, by rw [hn]⟩, q1⟩
end
end VM
end
section
set_option Elab.async false
set_option linter.all false
set_option maxRecDepth 100000
set_option maxHeartbeats 4000000
set_option autoImplicit false
/-! Constants and tables of the module, counting, sorting, dicts walked and compared. -/
namespace VM
open PySem PySem.Spec PyProof.Rows L2

/-! ### constants of the module -/
mutual
def okV (K : PySem.W.Frag) : A → Value → Bool
  | .non, .none => true
  | .bl b, .bool c => b == c
  | .int i, .int j _ => decide (i = j)
  | .str x, .str y _ => decide (x = y)
  | .fn x, .ref p => decide (p = He.ga K x)
  | .tup xs, .ref p => (match K.lookup p with
    | some ⟨.type c, _, .seq its _, _⟩ => decide (c = "tuple") && (decide (its.size ≤ sizeLine) && okVs K xs its.toList)
    | _ => false)
  | .lst xs, .ref p => (match K.lookup p with
    | some ⟨.type c, none, .seq its _, _⟩ => decide (c = "list") && (decide (its.size ≤ sizeLine) && okVs K xs its.toList)
    | _ => false)
  | _, _ => false
def okVs (K : PySem.W.Frag) : List A → List Value → Bool
  | [], [] => true
  | a :: as, v :: vs => okV K a v && okVs K as vs
  | _, _ => false
end
mutual
theorem okV_ok {K : PySem.W.Frag} : ∀ (a : A) (u : Value), okV K a u = true → ∃ v, RelV v u ∧ ∀ F m, RA K F m a v
  | .non, u, h => by
    cases u with
    | none => exact ⟨.non, rfl, fun _ _ => .non⟩
    | _ => cases h
  | .bl b, u, h => by
    cases u with
    | bool c =>
      obtain rfl : b = c := eq_of_beq h
      exact ⟨.bl b, rfl, fun _ _ => .bl b⟩
    | _ => cases h
  | .int i, u, h => by
    cases u with
    | int j t =>
      obtain rfl : i = j := of_decide_eq_true h
      exact ⟨.int i, ⟨t, rfl⟩, fun _ _ => .int i⟩
    | _ => cases h
  | .str i, u, h => by
    cases u with
    | str j t =>
      obtain rfl : i = j := of_decide_eq_true h
      exact ⟨.str i, ⟨t, rfl⟩, fun _ _ => .str i⟩
    | _ => cases h
  | .fn x, u, h => by
    cases u with
    | ref p =>
      obtain rfl : p = He.ga K x := of_decide_eq_true h
      exact ⟨.ref _, rfl, fun _ _ => .fn x⟩
    | _ => cases h
  | .tup xs, u, h => by
    cases u with
    | ref p =>
      unfold okV at h
      cases q : K.lookup p with
      | none => rw [q] at h; cases h
      | some o =>
        obtain ⟨oc, od, dt, osl⟩ := o
        rw [q] at h
        cases oc with
        | type c =>
          cases dt with
          | seq its n =>
            obtain ⟨h1, h2⟩ := He.ba h
            obtain ⟨h3, h4⟩ := He.ba h2
            obtain ⟨vs, r1, r2⟩ := okVs_ok xs its.toList h4
            exact ⟨.ref p, rfl, fun F m => .tup (.inr ⟨_, its, n, q, congrArg Value.type (of_decide_eq_true h1), rfl, of_decide_eq_true h3, r1⟩) (r2 F m)⟩
          | _ => cases h
        | _ => cases dt <;> cases h
    | _ => cases h
  | .lst xs, u, h => by
    cases u with
    | ref p =>
      unfold okV at h
      cases q : K.lookup p with
      | none => rw [q] at h; cases h
      | some o =>
        obtain ⟨oc, od, dt, osl⟩ := o
        rw [q] at h
        cases oc with
        | type c =>
          cases od with
          | none =>
            cases dt with
            | seq its n =>
              obtain ⟨h1, h2⟩ := He.ba h
              obtain ⟨h3, h4⟩ := He.ba h2
              obtain ⟨vs, r1, r2⟩ := okVs_ok xs its.toList h4
              exact ⟨.ref p, rfl, fun F m => .lst (.inr ⟨_, its, n, q, congrArg Value.type (of_decide_eq_true h1), rfl, rfl, of_decide_eq_true h3, r1⟩) (r2 F m)⟩
            | _ => cases h
          | some _ => cases dt <;> cases h
        | _ => cases od <;> cases dt <;> cases h
    | _ => cases h
  | .dic _, u, h => by cases u <;> cases h
  | .ref _, u, h => by cases u <;> cases h
theorem okVs_ok {K : PySem.W.Frag} : ∀ (a : List A) (u : List Value), okVs K a u = true → ∃ v, Vals v u ∧ ∀ F m, RAs K F m a v
  | [], [], _ => ⟨[], .nil, fun _ _ => .nil⟩
  | [], _ :: _, h => by cases h
  | _ :: _, [], h => by cases h
  | a :: as, u :: us, h => by
    obtain ⟨h1, h2⟩ := He.ba (show (okV K a u && okVs K as us) = true from h)
    obtain ⟨v, r1, r2⟩ := okV_ok a u h1
    obtain ⟨vs, r3, r4⟩ := okVs_ok as us h2
    exact ⟨v :: vs, .cons r1 r3, fun F m => .cons (r2 F m) (r4 F m)⟩
end
/-- the module's name x stands for a -/
def KG (mg : Str → Option Value) (K : PySem.W.Frag) (x : Str) (a : A) : Prop := ∃ u v, mg x = some u ∧ RelV v u ∧ ∀ F m, RA K F m a v
def kgB (K : PySem.W.Frag) (x : Str) (a : A) : Bool := match PySem.W.nsIn K mainGlobals x with
  | some (some u) => okV K a u
  | _ => false
theorem kg_ok {K : PySem.W.Frag} {h : Heap} {mg : Str → Option Value} (X : K.In h) (G : h.Ns mainGlobals mg) {x : Str} {a : A} (c : kgB K x a = true) : KG mg K x a := by
  unfold kgB at c
  cases e : PySem.W.nsIn K mainGlobals x with
  | none => rw [e] at c; cases c
  | some o =>
    rw [e] at c
    cases o with
    | none => cases c
    | some u =>
      obtain ⟨v, r1, r2⟩ := okV_ok a u c
      exact ⟨u, v, PySem.W.mg_of X G e, r1, r2⟩
/-- a table of the module: the words that are asked for, what stands at them -/
structure TabOk (mg : Str → Option Value) (K : PySem.W.Frag) (w : World) (x : Str) (kvs : List (Str × Option A)) : Prop where
  gl : mg x = some (.ref (He.ga K x))
  kd : ∃ es n, KDict K w (He.ga K x) es n
  at_ : ∀ z o, (z, o) ∈ kvs → match o with
    | some a => ∃ u v, PySem.W.nsIn K (He.ga K x) z = some (some u) ∧ RelV v u ∧ ∀ F m, RA K F m a v
    | none => PySem.W.nsIn K (He.ga K x) z = some none
def tabB (K : PySem.W.Frag) (x : Str) (kvs : List (Str × Option A)) : Bool := kvs.all fun q => match q.2 with
  | some a => (match PySem.W.nsIn K (He.ga K x) q.1 with
    | some (some u) => okV K a u
    | _ => false)
  | none => (match PySem.W.nsIn K (He.ga K x) q.1 with
    | some none => true
    | _ => false)
theorem tab_ok {K : PySem.W.Frag} {w : World} {mg : Str → Option Value} {x : Str} {kvs : List (Str × Option A)} (g : mg x = some (.ref (He.ga K x))) (k : ∃ es n, KDict K w (He.ga K x) es n) (c : tabB K x kvs = true) : TabOk mg K w x kvs := by
  refine ⟨g, k, fun z o hz => ?_⟩
  have h := List.all_eq_true.mp c (z, o) hz
  cases o with
  | some a =>
    simp only at h
    cases e : PySem.W.nsIn K (He.ga K x) z with
    | none => rw [e] at h; cases h
    | some r =>
      rw [e] at h
      cases r with
      | none => cases h
      | some u =>
        obtain ⟨v, r1, r2⟩ := okV_ok a u h
        exact ⟨u, v, rfl, r1, r2⟩
  | none =>
    simp only at h
    cases e : PySem.W.nsIn K (He.ga K x) z with
    | none => rw [e] at h; cases h
    | some r =>
      rw [e] at h
      cases r with
      | none => rfl
      | some u => cases h
def tabFind (kvs : List (Str × Option A)) (z : Str) : Option (Option A) := (kvs.find? fun q => decide (q.1 = z)).map (·.2)
theorem tabFind_mem {kvs : List (Str × Option A)} {z : Str} {o : Option A} (h : tabFind kvs z = some o) : (z, o) ∈ kvs := by
  unfold tabFind at h
  cases e : kvs.find? fun q => decide (q.1 = z) with
  | none => rw [e] at h; cases h
  | some q =>
    rw [e] at h
    cases h
    have h1 := List.find?_some e
    have h2 := List.mem_of_find?_eq_some e
    have h3 : q.1 = z := of_decide_eq_true h1
    rw [← h3]
    exact h2
/-- word in TABLE; TABLE[word] -/
def opTabIn (kvs : List (Str × Option A)) (a : A) : M A := fun S => match a with
  | .str z => (match tabFind kvs z with
    | some o => .ok (.bl o.isSome) S
    | none => .bad)
  | _ => .bad
def opTabIx (kvs : List (Str × Option A)) (a : A) : M A := fun S => match a with
  | .str z => (match tabFind kvs z with
    | some (some b) => .ok b S
    | _ => .bad)
  | _ => .bad
section
variable {X : Cx} {W : WX} {k : Nat} {a b c e : Expr} {es : List Expr} {ca cb cc : C} {cl : CL} {pos p p2 q apos : Pos}
theorem e_glob {x : Str} {v : A} (h : KG X.mg X.K x v) (hg : Gl X x := by rfl) (hd : (x == ("__debug__" : Str)) = false := by decide) : PE X (.Name x pos) (tC X.K W (cC v)) := by
  obtain ⟨u, y, h1, h2, h3⟩ := h
  exact e_const (pe_glob hg h1 h2 hd) fun w => h3 w.F w.m
theorem tab_rd {x : Str} {kvs : List (Str × Option A)} (T : TabOk X.mg X.K X.w x kvs) {z : Str} {o : Option A} (h : tabFind kvs z = some o) : ∃ r, PySem.W.nsIn X.K (He.ga X.K x) z = some r ∧ r.isSome = o.isSome := by
  have := T.at_ z o (tabFind_mem h)
  cases o with
  | some a => obtain ⟨u, v, h1, _⟩ := this; exact ⟨some u, h1, rfl⟩
  | none => exact ⟨none, this, rfl⟩
theorem tabIn_rd {x : Str} {kvs : List (Str × Option A)} (T : TabOk X.mg X.K X.w x kvs) {σ : SV} {H : Hp} {Q : VK} (h : tC X.K W (c1 (opTabIn kvs) ca) σ H Q) :
    tC X.K W ca σ H fun y H1 => ∃ z r, y = .str z ∧ PySem.W.nsIn X.K (He.ga X.K x) z = some r ∧ Q (.bl r.isSome) H1 := by
  obtain ⟨w, e, S, eH, r, re, h⟩ := h
  refine ⟨w, e, S, eH, r, re, Po.bnd h fun y S1 w1 v e1 r1 q1 h1 => ?_⟩
  cases y with
  | str z =>
    cases q1
    unfold opTabIn at h1
    simp only at h1
    cases e2 : tabFind kvs z with
    | none => rw [e2] at h1; exact h1.elim
    | some o =>
      rw [e2] at h1
      obtain ⟨r, h2, h3⟩ := tab_rd T e2
      exact ⟨z, r, rfl, h2, by rw [h3]; exact Po.now h1 r1 (.bl _)⟩
  | _ => exact h1.elim
theorem pe_tab {x : Str} {kvs : List (Str × Option A)} (T : TabOk X.mg X.K X.w x kvs) (hg : Gl X x) (hd : (x == ("__debug__" : Str)) = false) : PE X (.Name x p) (L2.tC (.ref (He.ga X.K x))) := pe_glob hg T.gl rfl hd
theorem e_tabIn {x : Str} {kvs : List (Str × Option A)} (T : TabOk X.mg X.K X.w x kvs) (ha : PE X a (tC X.K W ca)) (hg : Gl X x := by rfl) (hd : (x == ("__debug__" : Str)) = false := by decide) :
    PE X (.Compare a [.In] [.Name x p] pos) (tC X.K W (c1 (opTabIn kvs) ca)) := by
  obtain ⟨es, n, D⟩ := T.kd
  refine PE.weak (pe_cmpR (op_in_kd D) ha (pe_tab T hg hd) rfl) fun σ H Q h => ?_
  obtain ⟨w, e, S, eH, r, re, h⟩ := tabIn_rd T h
  exact ⟨w, e, S, eH, r, re, Po.imp h fun w' y _ ⟨z, r, h1, h2, h3⟩ => ⟨z, r, h1, rfl, h2, h3⟩⟩
theorem t_tabIn {x : Str} {kvs : List (Str × Option A)} (T : TabOk X.mg X.K X.w x kvs) (ha : PE X a (tC X.K W ca)) (hg : Gl X x := by rfl) (hd : (x == ("__debug__" : Str)) = false := by decide) :
    PT X (.Compare a [.In] [.Name x p] pos) (tB X.K W (tVal (c1 (opTabIn kvs) ca))) := by
  obtain ⟨es, n, D⟩ := T.kd
  refine PT.weak (pt_cmpR (op_in_kd D) ha (pe_tab T hg hd) rfl) fun σ H Q ⟨w, e, S, eH, r, re, h⟩ => ?_
  have h' : tC X.K W (c1 (opTabIn kvs) ca) σ H (fun x H' => ∃ k, x = .bl k ∧ Q k H') := ⟨w, e, S, eH, r, re, Po.bnd h fun x S1 w1 v e1 r1 q1 h1 => h1.asB r1 q1⟩
  obtain ⟨w, e, S, eH, r, re, h⟩ := tabIn_rd T h'
  exact ⟨w, e, S, eH, r, re, Po.imp h fun w' y _ ⟨z, r, h1, h2, h3⟩ => ⟨z, r, h1, rfl, h2, h3⟩⟩
theorem e_tabIx {x : Str} {kvs : List (Str × Option A)} (T : TabOk X.mg X.K X.w x kvs) (ha : PE X a (tC X.K W ca)) (hs : PlainIx a := by exact fun _ _ => rfl) (hg : Gl X x := by rfl) (hd : (x == ("__debug__" : Str)) = false := by decide) :
    PE X (.Subscript (.Name x p) a pos) (tC X.K W (c1 (opTabIx kvs) ca)) := by
  obtain ⟨es, n, D⟩ := T.kd
  refine PE.weak (pe_ix ix_kdict (pe_tab T hg hd) ha hs) fun σ H Q ⟨w, e, S, eH, r, re, h⟩ => ?_
  refine ⟨w, e, S, eH, r, re, Po.bnd h fun y S1 w1 v e1 r1 q1 h1 => ?_⟩
  cases y with
  | str z =>
    cases q1
    unfold opTabIx at h1
    simp only at h1
    cases e2 : tabFind kvs z with
    | none => rw [e2] at h1; exact h1.elim
    | some o =>
      rw [e2] at h1
      cases o with
      | none => exact h1.elim
      | some b =>
        obtain ⟨u, v, h2, h3, h4⟩ := T.at_ z (some b) (tabFind_mem e2)
        exact ⟨_, z, v, rfl, rfl, ⟨es, n, u, D.at_, D.lit, h2, h3⟩, Po.now h1 r1 (h4 _ _)⟩
  | _ => exact h1.elim
/-! ### tests of a comprehension -/
theorem ts_nil : PTs X [] (tB X.K W cYes) := ⟨fun pins s σ H Q I ⟨w, e, S, eH, r, re, h⟩ => (pts_nil (X := X)).run pins s σ H Q I (by subst eH; exact Po.nowB h r)⟩
theorem ts_one {tt : CB} (h : PT X a (tB X.K W tt)) : PTs X [a] (tB X.K W tt) := pts_one h
end
/-! ### xs.count(z), texts -/
def opCountS (a : A) (as : List A) : M A := fun S => match as with
  | [.str z] => (match lstAt S a with
    | some xs => (match strsOf xs with
      | some ys => .ok (.int (ys.count z : Nat)) S
      | none => .bad)
    | none => .bad)
  | _ => .bad
def rCntS (K : PySem.W.Frag) : V → List V → Hp → VK → Prop := fun x xs H Q => ∃ (p : Addr) (ys : List Str) (z : Str), x = .ref p ∧ xs = [.str z] ∧ SqL K H p (ys.map V.str) ∧ Q (.int (ys.count z : Nat)) H
theorem countS : ∀ {ys : List Str} {us : List Value} (z : Str), Vals (ys.map V.str) us → us.countP (eqU (.str z)) = ys.count z
  | [], _, z, .nil => rfl
  | y :: ys, _, z, .cons r t => by
    obtain ⟨k, rfl⟩ := r
    rw [List.countP_cons, List.count_cons, countS z t]
    congr 1
theorem mt_countS {X : Cx} : MtR X "list.count" (rCntS X.K) := by
  intro pins s σ H x xs v us Q I rx rxs h
  obtain ⟨p, ys, z, rfl, rfl, hs, q⟩ := h
  cases rx
  obtain ⟨u, rfl, ru⟩ := rxs.one
  obtain ⟨t, rfl⟩ := ru
  obtain ⟨its, rv, ⟨⟨cls, dd, data, sl⟩, n, ho, hc, hdn, hd⟩, hlen⟩ := I.list hs
  simp only at hc hd
  subst hc hd
  refine call_meets PySem.F.slot_list_count ⟨_, ho, rfl⟩ PySem.F.entry_list_count (PySem.F.args_list_count_2 _ _)
    (SeqAt.list_countAt p its.toArray n dd sl (.str z t) (eqU (.str z))) ⟨ho, fun y hy => mem_eqAt (x := .str z) ⟨t, rfl⟩ rfl rv (flat_strs ys) y (by simpa using hy), ?_⟩
  refine ⟨.int (ys.count z : Nat), H, I.tok _, ⟨s.toks, ?_⟩, q⟩
  show Value.int ((its.toArray.toList.countP (eqU (.str z)) : Nat) : Int) s.toks = Value.int ((ys.count z : Nat) : Int) s.toks
  rw [show its.toArray.toList.countP (eqU (.str z)) = ys.count z from countS z rv]
theorem f_count {K : PySem.W.Frag} : OpM K (rCntS K) opCountS := by
  intro w S σ W a as x xs Q r ra ras h
  unfold opCountS at h
  split at h
  · rename_i z
    cases e : lstAt S a with
    | none => rw [e] at h; exact h.elim
    | some ys =>
      rw [e] at h
      simp only at h
      cases e2 : strsOf ys with
      | none => rw [e2] at h; exact h.elim
      | some zs =>
        rw [e2] at h
        obtain ⟨p, vs, rfl, h1, h2⟩ := lstAt_ok r ra e
        obtain ⟨v, rfl, rv⟩ := ras.one
        cases rv
        exact ⟨p, zs, z, rfl, rfl, by rw [← strsOf_ok h2 e2]; exact h1, Po.now h r (.int _)⟩
  · exact h.elim
section
variable {X : Cx} {W : WX} {a e : Expr} {co : C} {cl : CL} {pos apos : Pos}
theorem e_count (ho : PE X a (tC X.K W co)) (ha : PA X [e] (tL X.K W cl))
    (hbase : attributeBase a "count" X.env (eval a X.env) = eval a X.env := by rfl)
    (hfew : ((backTo pos (starEach [e] X.env)).all (fun x => !x.1) && (backToKw pos (keywordEach [] X.env)).all (fun x => x.1.isSome)
      && decide ([e].length + ([] : List Keyword).length + (if ([] : List Keyword).isEmpty then 0 else 1) < 30)) = true := by rfl)
    (hline : (apos.endLine == pos.line) = true := by rfl) (hs : starEach [e] X.env = (false, eval e X.env) :: starEach [] X.env := by rfl) (hplain : (backTo pos (starEach [] X.env)).any (·.1) = false := by rfl) :
    PE X (.Call (.Attribute a "count" apos) [e] [] pos) (tC X.K W (cMt "list" opCountS co cl)) :=
  e_bm PySem.F.plainAttrs_list PySem.F.slot_list_count PySem.F.type_list_count mt_countS f_count ho ha hbase hfew hline hs hplain
end
/-! ### for sign in text -/
theorem walker_str {K : PySem.W.Frag} {x : Str} : Walker K (Its x) (x.cps.toList.map fun c => A.str ⟨#[c]⟩) (fun _ => True) where
  keep := fun _ _ _ _ => trivial
  go := fun i w S r h hi => by
    have hi' : i < x.cps.size := by simpa using hi
    refine ⟨hi', fun y H' q => ⟨q.1, A.str ⟨#[x.cps[i]]⟩, ?_, ?_⟩⟩
    · rw [List.getElem?_map]; simp [hi']
    · obtain ⟨_, c, hc, rfl⟩ := q
      rw [Array.getElem?_eq_getElem hi'] at hc
      cases hc
      exact .str _
  stop := fun w S r h => by show x.cps.size ≤ _; simp
theorem src_str {X : Cx} {W : WX} {ca : C} : Src X W (iStr (tC X.K W ca)) (cItS ca) where
  run := fun w e S σ R r re hk hx hb => by
    refine ⟨w, e, S, rfl, r, re, ?_⟩
    cases q : ca e S with
    | ok a S' =>
      intro w' v x1 r1 q1
      have eq : cItS ca e S = itemsStr a S' := bnd_ok q
      cases a with
      | str x =>
        cases q1
        exact ⟨x, rfl, hk _ S' eq w' (Its x) _ x1 r1 (re.ext x1) trivial walker_str⟩
      | _ => exact absurd eq hb
    | exc x S' => exact hx x S' (bnd_exc q)
    | bad => exact absurd (bnd_bad q) hb
end VM
end
section
set_option Elab.async false
set_option linter.all false
set_option maxRecDepth 100000
set_option maxHeartbeats 4000000
set_option autoImplicit false
/-! Sorting, dicts walked and compared. -/
namespace VM
open PySem PySem.Spec PyProof.Rows L2

/-! ### sorted(xs), ints -/
def insI (x : Int) : List Int → List Int
  | [] => [x]
  | y :: r => if x ≤ y then x :: y :: r else y :: insI x r
def isort : List Int → List Int
  | [] => []
  | x :: r => insI x (isort r)
theorem insI_perm (x : Int) : ∀ l, (insI x l).Perm (x :: l)
  | [] => List.Perm.refl _
  | y :: r => by
    unfold insI
    split
    · exact List.Perm.refl _
    · exact ((insI_perm x r).cons y).trans (List.Perm.swap x y r)
theorem isort_perm : ∀ l, (isort l).Perm l
  | [] => List.Perm.refl _
  | x :: r => (insI_perm x (isort r)).trans ((isort_perm r).cons x)
theorem insI_sorted (x : Int) : ∀ l : List Int, l.Pairwise (· ≤ ·) → (insI x l).Pairwise (· ≤ ·)
  | [], _ => List.pairwise_singleton _ _
  | y :: r, h => by
    obtain ⟨h1, h2⟩ := List.pairwise_cons.mp h
    unfold insI
    split
    · rename_i hxy
      refine List.pairwise_cons.mpr ⟨fun z hz => ?_, h⟩
      rcases List.mem_cons.mp hz with rfl | hz
      · exact hxy
      · exact Int.le_trans hxy (h1 z hz)
    · rename_i hxy
      refine List.pairwise_cons.mpr ⟨fun z hz => ?_, insI_sorted x r h2⟩
      rcases List.mem_cons.mp ((insI_perm x r).mem_iff.mp hz) with rfl | hz
      · omega
      · exact h1 z hz
theorem isort_sorted : ∀ l, (isort l).Pairwise (· ≤ ·)
  | [] => List.Pairwise.nil
  | x :: r => insI_sorted x _ (isort_sorted r)
theorem sorted_uniq : ∀ {l m : List Int}, l.Pairwise (· ≤ ·) → m.Pairwise (· ≤ ·) → l.Perm m → l = m
  | [], m, _, _, h => (List.Perm.eq_nil h.symm).symm
  | x :: l, [], _, _, h => absurd h.length_eq (by simp)
  | x :: l, y :: m, hl, hm, h => by
    obtain ⟨a1, a2⟩ := List.pairwise_cons.mp hl
    obtain ⟨b1, b2⟩ := List.pairwise_cons.mp hm
    have h1 : x ≤ y := by
      rcases List.mem_cons.mp (h.mem_iff.mpr (List.mem_cons_self (a := y) (l := m))) with e | e
      · rw [e]; exact Int.le_refl _
      · exact a1 y e
    have h2 : y ≤ x := by
      rcases List.mem_cons.mp (h.mem_iff.mp (List.mem_cons_self (a := x) (l := l))) with e | e
      · rw [e]; exact Int.le_refl _
      · exact b1 x e
    obtain rfl : x = y := Int.le_antisymm h1 h2
    rw [sorted_uniq a2 b2 (List.Perm.cons_inv h)]
def opSortI : List A → M A := op1 fun a S => match lstAt S a with
  | some xs => (match intsOf xs with
    | some ns => .ok (.lst ((isort ns).map .int)) S
    | none => .bad)
  | none => .bad
theorem ints_RAs {K : PySem.W.Frag} {F : Hp} {m : List Addr} : ∀ ns : List Int, RAs K F m (ns.map .int) (ns.map .int)
  | [] => .nil
  | n :: ns => .cons (.int n) (ints_RAs ns)
theorem f_sortI {K : PySem.W.Frag} : OpN K (rSortedI K) opSortI := by
  refine f_1 fun w S σ W a v Q r ra h => ?_
  cases e : lstAt S a with
  | none => rw [e] at h; exact h.elim
  | some xs =>
    rw [e] at h
    simp only at h
    cases e2 : intsOf xs with
    | none => rw [e2] at h; exact h.elim
    | some ns =>
      rw [e2] at h
      obtain ⟨p, vs, rfl, h1, h2⟩ := lstAt_ok r ra e
      have := ints_ok h2 e2
      subst this
      refine ⟨p, ns, rfl, h1, fun ns' q pm ss hq => ?_⟩
      obtain rfl : ns' = isort ns := sorted_uniq ss (isort_sorted ns) (pm.trans (isort_perm ns).symm)
      exact Po.frzL r (ints_RAs _) h q hq

/-! ### sorted([(i, ..), (j, ..)]), i and j differ -/
section
variable {prog : Program} {w : World} {A : Around} {s : Shared}
theorem kat_self {b : Bool} {Q : Bool → Shared → Prop} (h : Q false s) : ∀ (xs : List Value) (i : Nat), PySem.W.KatLex prog w A b false Q (xs.zip xs) i s
  | [], _ => PySem.W.kat_nil h
  | x :: xs, i => PySem.W.kat_cons (SeqAt.EqAt.same x prog w _ _ (PySem.W.kat_yes (kat_self h xs (i + 1))))
/-- a tuple whose first is this int -/
def Fst (h : Heap) (t : Addr) (i : Int) : Prop := ∃ o u xs n, h.get? t = some o ∧ o.cls = .type "tuple" ∧ o.data = .seq (Value.int i u :: xs).toArray n
theorem Fst.uniq {h : Heap} {t : Addr} {i j : Int} (a : Fst h t i) (b : Fst h t j) : i = j := by
  obtain ⟨o, u, xs, n, h1, _, h3⟩ := a
  obtain ⟨o', u', xs', n', h1', _, h3'⟩ := b
  rw [h1] at h1'; cases h1'
  rw [h3] at h3'
  injection h3' with e1 e2
  have e := congrArg Array.toList e1
  simp at e
  exact e.1.1
theorem fst_cmp {t1 t2 : Addr} {i j : Int} (h1 : Fst s.heap t1 i) (h2 : Fst s.heap t2 j) (hij : i ≠ j) :
    SrtO.Cmp prog w A s (tuples' true) (fun p => p.1 ∈ [Value.ref t1, Value.ref t2]) (SrtO.lt2 fun v u => decide ((if v = .ref t1 then i else j) < (if u = .ref t1 then i else j))) := by
  have hne : t2 ≠ t1 := fun e => hij (Fst.uniq h1 (e ▸ h2))
  have hk2 : (if Value.ref t2 = .ref t1 then i else j) = j := if_neg fun e => hne (by injection e)
  have go : ∀ (x y : Addr) (a b : Int), Fst s.heap x a → Fst s.heap y b → (x = y ∨ a ≠ b) → wpAny (model prog w) A (keyLt' (tuples' true) (.ref x) (.ref y)) (fun r s' => s' = s ∧ r = decide (a < b)) (fun _ _ => False) s := by
    intro x y a b hx hy hxy
    obtain ⟨o, u, xs, n, g1, g2, g3⟩ := hx
    obtain ⟨o', u', xs', n', k1, k2, k3⟩ := hy
    by_cases e : x = y
    · subst e
      rw [g1] at k1; cases k1
      rw [g3] at k3
      injection k3 with e1 e2
      have e3 := congrArg Array.toList e1
      simp at e3
      obtain ⟨⟨rfl, rfl⟩, rfl⟩ := e3
      refine PySem.W.kat_lt g1 g3 g1 g3 ?_
      rw [show decide ((Value.int a u :: xs).toArray.size < (Value.int a u :: xs).toArray.size) = false from decide_eq_false (Nat.lt_irrefl _)]
      exact kat_self ⟨rfl, (decide_eq_false (Int.lt_irrefl a)).symm⟩ _ 0
    · have hab : a ≠ b := hxy.resolve_left e
      refine PySem.W.kat_lt g1 g3 k1 k3 ?_
      refine PySem.W.kat_cons (SeqAt.EqAt.int_int a u b u' prog w _ _ ?_)
      rw [show (a == b) = false from beq_eq_false_iff_ne.mpr hab]
      exact PySem.W.kat_no (oneLt_int ⟨rfl, rfl⟩)
  intro p q hm hm'
  show wpAny (model prog w) A (keyLt' (tuples' true) p.1 q.1) (fun r s' => s' = s ∧ r = decide ((if p.1 = .ref t1 then i else j) < (if q.1 = .ref t1 then i else j))) (fun _ _ => False) s
  rcases List.mem_cons.mp hm with e | e
  · rcases List.mem_cons.mp hm' with f | f
    · rw [e, f, if_pos rfl]; exact go _ _ _ _ h1 h1 (.inl rfl)
    · have f := List.mem_singleton.mp f
      rw [e, f, if_pos rfl, hk2]; exact go _ _ _ _ h1 h2 (.inr hij)
  · have e := List.mem_singleton.mp e
    rcases List.mem_cons.mp hm' with f | f
    · rw [e, f, if_pos rfl, hk2]; exact go _ _ _ _ h2 h1 (.inr fun z => hij z.symm)
    · have f := List.mem_singleton.mp f
      rw [e, f, hk2]; exact go _ _ _ _ h2 h2 (.inl rfl)
theorem Fst.keeps {h h' : Heap} {t : Addr} {i : Int} (x : Fst h t i) (k : ∀ o, h.get? t = some o → o.cls = .type "tuple" → h'.get? t = some o) : Fst h' t i := by
  obtain ⟨o, u, xs, n, h1, h2, h3⟩ := x
  exact ⟨o, u, xs, n, k o h1 h2, h2, h3⟩
theorem fst_sortable {a t1 t2 : Addr} {i j : Int} (h1 : Fst s.heap t1 i) (h2 : Fst s.heap t2 j) (hij : i ≠ j) (ha : ∀ o, s.heap.get? a = some o → o.cls ≠ .type "tuple") :
    SrtO.SortableO prog w A s a [.ref t1, .ref t2] fun v u => decide ((if v = .ref t1 then i else j) < (if u = .ref t1 then i else j)) := by
  intro h' keep
  have k1 : Fst h' t1 i := h1.keeps fun o e c => keep t1 o (fun z => by subst z; exact ha o e c) e
  have k2 : Fst h' t2 j := h2.keeps fun o e c => keep t2 o (fun z => by subst z; exact ha o e c) e
  refine ⟨tuples' true, fun Q E hq => ?_, fst_cmp (s := { s with heap := h' }) k1 k2 hij⟩
  obtain ⟨o1, u1, xs1, n1, a1, a2, a3⟩ := k1
  obtain ⟨o2, u2, xs2, n2, b1, b2, b3⟩ := k2
  refine PySem.W.kat_kind (T := .type "int") (fs := [.int i u1, .int j u2]) (PySem.W.KatTups.cons a1 a2 a3 (by simp) (PySem.W.KatTups.cons b1 b2 b3 (by simp) PySem.W.KatTups.nil)) (by simp) (fun f hm => ?_) (by rfl) ?_
  · rcases List.mem_cons.mp hm with rfl | hm
    · exact PySem.W.Looks.now
    · rw [List.mem_singleton.mp hm]; exact PySem.W.Looks.now
  · have e : (Value.type "int" != Value.type "tuple") = true := by decide +kernel
    rw [e]
    exact hq
theorem swo_fst (t1 : Addr) (i j : Int) : SrtO.Swo fun v u : Value => decide ((if v = .ref t1 then i else j) < (if u = .ref t1 then i else j)) := by
  refine ⟨fun x y h => ?_, fun x y z h1 h2 => ?_⟩
  · have a := of_decide_eq_true h
    exact decide_eq_false (by omega)
  · have a := of_decide_eq_false h1
    have b := of_decide_eq_false h2
    exact decide_eq_false (by omega)
end
def rSort2 (K : PySem.W.Frag) : List V → Hp → VK → Prop := fun vs H Q => ∃ (a t1 t2 : Addr) (i j : Int) (xs ys : List V), vs = [V.ref a] ∧ SqL K H a [.ref t1, .ref t2] ∧ SqT K H t1 (.int i :: xs) ∧ SqT K H t2 (.int j :: ys) ∧ i ≠ j ∧
  ∀ p, H p = none → Q (.ref p) (upd H p (.lst (if i < j then [.ref t1, .ref t2] else [.ref t2, .ref t1])))
theorem cr_sort2 {X : Cx} : CallR X (.builtin "sorted") (rSort2 X.K) := by
  intro pins s σ H vs us Q I r h
  obtain ⟨a, t1, t2, i, j, xs, ys, rfl, hs, hx, hy, hij, q⟩ := h
  obtain ⟨its, rv, hl, hz⟩ := I.list hs
  rw [Vals.ref1 r]
  obtain ⟨u1, u2, rfl, e1, e2⟩ := vals2 rv
  cases e1; cases e2
  have fs : ∀ (t : Addr) (i : Int) (xs : List V), SqT X.K H t (.int i :: xs) → Fst s.heap t i := fun t i xs h => by
    obtain ⟨its, r, ⟨o, ho, hc, n, hd⟩, _⟩ := I.tuple h
    cases r with
    | cons r1 r2 =>
      obtain ⟨u, rfl⟩ := r1
      exact ⟨o, u, _, n, ho, hc, hd⟩
  have f1 := fs _ _ _ hx
  have f2 := fs _ _ _ hy
  have hne : t2 ≠ t1 := fun e => hij (Fst.uniq f1 (e ▸ f2))
  have hk2 : (if Value.ref t2 = .ref t1 then i else j) = j := if_neg fun e => hne (by injection e)
  refine SrtO.sorted_ord (swo_fst t1 i j) hl.isList (by rw [sizeLine_eq]; simp) (fun h2 h₁ b hb kk => fst_sortable (s := { s with heap := h₁ }) (f1.keeps fun o e _ => (kk _ o e).2) (f2.keeps fun o e _ => (kk _ o e).2) hij fun o e => ?_) fun out hs hb => ?_
  · rw [show h₁.get? b = _ from hb] at e
    have e' := Option.some.inj e
    subst e'
    intro c
    exact absurd (Value.type.inj c) (by decide)
  · obtain ⟨ep, he'⟩ := PyProof.Rows.sortedAll_at s.heap [.ref t1, .ref t2] out.toArray
    have ho : out = (if i < j then [.ref t1, .ref t2] else [.ref t2, .ref t1]) := by
      refine SrtO.stb_uniq (swo_fst t1 i j) hs ?_ (hb.trans ?_)
      · by_cases c : i < j
        · rw [if_pos c]
          refine List.pairwise_cons.mpr ⟨fun z hz => ?_, List.pairwise_singleton _ _⟩
          rw [List.mem_singleton.mp hz]
          exact decide_eq_false (by rw [hk2, if_pos rfl]; omega)
        · rw [if_neg c]
          refine List.pairwise_cons.mpr ⟨fun z hz => ?_, List.pairwise_singleton _ _⟩
          rw [List.mem_singleton.mp hz]
          exact decide_eq_false (by rw [hk2, if_pos rfl]; omega)
      · by_cases c : i < j
        · rw [if_pos c]; exact SrtO.Stb.refl _
        · rw [if_neg c]
          have sw := SrtO.Stb.swap (A := [.ref t2]) (B := [.ref t1]) (swo_fst t1 i j) fun x hx y hy => by
            rw [List.mem_singleton.mp hx, List.mem_singleton.mp hy]
            exact decide_eq_true (by rw [hk2, if_pos rfl]; omega)
          exact ⟨sw.perm.symm, fun x => (sw.cls x).symm⟩
    refine ⟨.ref _, upd H (s.heap.objs.size + 1) (.lst (if i < j then [.ref t1, .ref t2] else [.ref t2, .ref t1])), I.laid (t' := s.toks) (fun _ _ => PyProof.Rows.sortedAll_old) (Nat.le_succ _) ⟨?_, out, ep, ?_, he'⟩, rfl, q _ (I.hok.fresh (Nat.le_succ _))⟩
    · rw [sizeLine_eq]; split <;> simp
    · rw [ho]
      split
      · exact .cons rfl (.cons rfl .nil)
      · exact .cons rfl (.cons rfl .nil)
def opSort2 : List A → M A := op1 fun a S => match a with
  | .lst [.tup (.int i :: xs), .tup (.int j :: ys)] => if i ≠ j then .ok (.lst (if i < j then [.tup (.int i :: xs), .tup (.int j :: ys)] else [.tup (.int j :: ys), .tup (.int i :: xs)])) S else .bad
  | _ => .bad
theorem f_sort2 {K : PySem.W.Frag} : OpN K (rSort2 K) opSort2 := by
  refine f_1 fun w S σ W a v Q r ra h => ?_
  split at h
  · rename_i i xs j ys
    split at h
    · rename_i hij
      cases ra with
      | @lst _ p vs h1 h2 =>
        cases h2 with
        | cons g1 g2 =>
          cases g2 with
          | cons g2 g3 =>
            cases g3
            have g1' := g1
            have g2' := g2
            cases g1 with
            | @tup _ t1 us1 a1 a2 =>
              cases g2 with
              | @tup _ t2 us2 b1 b2 =>
                cases a2 with
                | cons a2 a3 =>
                  cases a2
                  cases b2 with
                  | cons b2 b3 =>
                    cases b2
                    refine ⟨p, t1, t2, i, j, _, _, rfl, r.sqL h1, r.sqT a1, r.sqT b1, hij, fun q hq => ?_⟩
                    by_cases c : i < j
                    · rw [if_pos c] at h ⊢
                      exact Po.frzL r (.cons g1' (.cons g2' .nil)) h q hq
                    · rw [if_neg c] at h ⊢
                      exact Po.frzL r (.cons g2' (.cons g1' .nil)) h q hq
    · exact h.elim
  · exact h.elim
end VM
end
section
set_option Elab.async false
set_option linter.all false
set_option maxRecDepth 100000
set_option maxHeartbeats 4000000
set_option autoImplicit false
/-! Dicts walked and compared. -/
namespace VM
open PySem PySem.Spec PyProof.Rows L2

/-! ### a frozen dict is walked -/
/-- keys; pairs -/
def itemsK (a : A) : Option (List A) := match a with
  | .dic kvs => some (kvs.map fun q => kA q.1)
  | _ => none
def itemsP (a : A) : Option (List A) := match a with
  | .dic kvs => some (kvs.map fun q => .tup [kA q.1, q.2])
  | _ => none
/-- no exception out of a walk that locks -/
def noX (r : RS) : RS := match r with
  | .exc _ _ _ => .bad
  | r => r
def sForD (f : A → Option (List A)) (i : Nat) (g : CG) (body : CS) (ks : List Nat) : CS := fun e S => match e[i]? with
  | some (some a) => (match f a with
    | some xs => noX (loopL g body ks xs e S)
    | none => .bad)
  | _ => .bad
/-- a walker that may make things -/
structure WalkerM (K : PySem.W.Frag) (J : It) (xs : List A) (ok : Wd → Prop) : Prop where
  keep : ∀ w w', Ext w w' → ok w → ok w'
  go : ∀ i w (S : Store), Rel K w S → ok w → i < xs.length → J.go i w.H ∧ ∀ x H', J.yld i w.H x H' → ∃ w', w'.H = H' ∧ Ext w w' ∧ Rel K w' S ∧ ∃ a, xs[i]? = some a ∧ RA K w'.F w'.m a x
  stop : ∀ w (S : Store), Rel K w S → ok w → J.stop xs.length w.H
theorem walk_forM {K : PySem.W.Frag} {W : WX} {J : It} {xs : List A} {ok : Wd → Prop} (Wk : WalkerM K J xs ok) {g : CG} {body : CS} {ks : List Nat} {w : Wd} {e : Slots} {σ : SV} {S : Store} {D : Ends} (hp : Plain g) (r : Rel K w S) (re : RE K w.F w.m e σ) (hk : ok w)
    (h : PoS K W w (loopL g body ks xs e S) D) :
    ∃ Wf : Nat → Nat → SV → Hp → Prop, (∃ m, Wf 0 m σ w.H) ∧ ∀ i m σ H, Wf i m σ H →
      (J.stop i H ∧ D.nx σ H) ∨ (J.go i H ∧ ∃ N : SV → Hp → Prop, (∀ σ' H', N σ' H' → ∃ m', m' < m ∧ Wf (i + 1) m' σ' H') ∧ ∀ x H', J.yld i H x H' → tG K W g x σ H' fun σ2 H2 => tS K W body { D with nx := N, ct := N, bk := D.nx } σ2 H2) := by
  refine ⟨fun i m σ H => m = xs.length - i ∧ i ≤ xs.length ∧ ∃ w e S, w.H = H ∧ Rel K w S ∧ RE K w.F w.m e σ ∧ ok w ∧ PoS K W w (loopL g body ks (xs.drop i) e S) D,
    ⟨xs.length, by simp, Nat.zero_le _, w, e, S, rfl, r, re, hk, by simpa using h⟩, ?_⟩
  rintro i m σ H ⟨rfl, hi, w, e, S, rfl, r, re, hk, h⟩
  by_cases hlt : i < xs.length
  · obtain ⟨g1, g2⟩ := Wk.go i w S r hk hlt
    refine .inr ⟨g1, fun σ' H' => ∃ w' e' S', w'.H = H' ∧ Rel K w' S' ∧ RE K w'.F w'.m e' σ' ∧ ok w' ∧ PoS K W w' (loopL g body ks (xs.drop (i + 1)) e' S') D,
      fun σ' H' ⟨w', e', S', x1, x2, x3, x4, x5⟩ => ⟨xs.length - (i + 1), by omega, rfl, hlt, w', e', S', x1, x2, x3, x4, x5⟩, fun x H' y => ?_⟩
    obtain ⟨w2, rfl, x2, r2, a, ha, ra⟩ := g2 x H' y
    have hd : xs.drop i = a :: xs.drop (i + 1) := by
      rw [List.drop_eq_getElem_cons hlt]
      rw [List.getElem?_eq_getElem hlt] at ha
      cases ha; rfl
    rw [hd] at h
    exact turn_go (nxt := loopL g body ks (xs.drop (i + 1))) (ks := ks) (e := kill ks e) (fun w' e' S' σ' r' re' x' h' => ⟨w', e', S', rfl, r', re', Wk.keep _ _ (x2.trans x') hk, h'⟩) r2 ((re.kill ks).ext x2) ra hp (h.ext x2)
  · have ei : i = xs.length := by omega
    subst ei
    rw [List.drop_length] at h
    exact .inl ⟨Wk.stop w S r hk, h w σ (Ext.refl w) r (re.kill ks)⟩
theorem RAk.get {K : PySem.W.Frag} {F : Hp} {m : List Addr} {xs : List (Key × A)} {vs : List (Key × V)} (r : RAk K F m xs vs) {i : Nat} {k : Key} {v : V} (h : vs[i]? = some (k, v)) : ∃ a, xs[i]? = some (k, a) ∧ RA K F m a v := by
  induction xs generalizing vs i with
  | nil => cases r; simp at h
  | cons x xs ih =>
    cases r with
    | @cons j a u _ us h1 h2 =>
      cases i with
      | zero => simp at h; obtain ⟨rfl, rfl⟩ := h; exact ⟨a, rfl, h1⟩
      | succ i => simpa using ih h2 (i := i) (by simpa using h)
theorem RAk.mono' {K : PySem.W.Frag} {w w' : Wd} (e : Ext w w') {xs : List (Key × A)} {vs : List (Key × V)} (r : RAk K w.F w.m xs vs) : RAk K w'.F w'.m xs vs := r.mono e.fr e.mp
/-- the locked dict stands, its values are the items' -/
def LockOk (K : PySem.W.Frag) (d : Addr) (o : Obj) (kvs : List (Key × A)) (vs : List (Key × V)) (w : Wd) : Prop := w.H d = some (.frz o (.dK vs)) ∧ d ∉ w.m ∧ RAk K w.F w.m kvs vs
theorem LockOk.keep {K : PySem.W.Frag} {d : Addr} {o : Obj} {kvs : List (Key × A)} {vs : List (Key × V)} {w w' : Wd} (e : Ext w w') (h : LockOk K d o kvs vs w) : LockOk K d o kvs vs w' := by
  refine ⟨e.keep _ _ h.1 h.2.1, fun z => ?_, h.2.2.mono' e⟩
  rcases e.mn _ z with z | z
  · exact h.2.1 z
  · rw [h.1] at z; cases z
theorem walker_keys {K : PySem.W.Frag} {d : Addr} {o : Obj} {kvs : List (Key × A)} {vs : List (Key × V)} : WalkerM K (Itk d o vs) (kvs.map fun q => kA q.1) (LockOk K d o kvs vs) where
  keep := fun w w' e h => h.keep e
  go := fun i w S r h hi => by
    have hl := h.2.2.length
    have hi' : i < vs.length := by rw [← hl]; simpa using hi
    refine ⟨⟨h.1, hi'⟩, fun x H' ⟨e, k, v, e1, e2⟩ => ⟨w, e.symm, Ext.refl w, r, kA k, ?_, ?_⟩⟩
    · obtain ⟨a, h1, _⟩ := h.2.2.get e1
      rw [List.getElem?_map, h1]; rfl
    · rw [e2]; exact kA_ok k
  stop := fun w S r h => ⟨h.1, by rw [List.length_map, h.2.2.length]; exact Nat.le_refl _⟩
theorem walker_pairs {K : PySem.W.Frag} {d : Addr} {o : Obj} {kvs : List (Key × A)} {vs : List (Key × V)} : WalkerM K (Iti d o vs) (kvs.map fun q => A.tup [kA q.1, q.2]) (LockOk K d o kvs vs) where
  keep := fun w w' e h => h.keep e
  go := fun i w S r h hi => by
    have hl := h.2.2.length
    have hi' : i < vs.length := by rw [← hl]; simpa using hi
    refine ⟨⟨h.1, hi'⟩, fun x H' ⟨T, k, v, e1, e2, e3, e4⟩ => ?_⟩
    obtain ⟨a, h1, h2⟩ := h.2.2.get e1
    have ex := Wd.frz_ext (u := .tup [kV k, v]) r e3
    refine ⟨w.frz T (.tup [kV k, v]), e4.symm, ex, Wd.frz_rel r e3, .tup [kA k, a], ?_, ?_⟩
    · rw [List.getElem?_map, h1]; rfl
    · rw [e2]
      exact .tup (.inl (by show upd w.F T _ T = _; exact upd_same)) (.cons (kA_ok k) (.cons (h2.ext ex) .nil))
  stop := fun w S r h => ⟨h.1, by rw [List.length_map, h.2.2.length]; exact Nat.le_refl _⟩
/-! a frozen thing is locked, then let go -/
def lockW (w : Wd) (d : Addr) (o : Obj) (u : HO) : Wd := ⟨w.F, w.m, upd w.H d (.frz o u)⟩
def freeW (w : Wd) (d : Addr) (u : HO) : Wd := ⟨w.F, w.m, upd w.H d u⟩
theorem lock_rel {K : PySem.W.Frag} {w : Wd} {S : Store} {d : Addr} {o : Obj} {u : HO} (r : Rel K w S) (hf : w.F d = some u) : Rel K (lockW w d o u) S := by
  have hm : d ∉ w.m := fun z => by rw [(r.out z).1] at hf; cases hf
  refine ⟨fun p v h => ?_, r.nd, r.ln, fun n ob h => ?_⟩
  · have h : w.F p = some v := h
    by_cases e : p = d
    · subst e
      obtain rfl : u = v := Option.some.inj (hf.symm.trans h)
      exact .inr ⟨o, upd_same⟩
    · rcases r.fz p v h with z | ⟨o', z⟩
      · exact .inl (by show upd w.H d _ p = _; rw [upd_ne e]; exact z)
      · exact .inr ⟨o', by show upd w.H d _ p = _; rw [upd_ne e]; exact z⟩
  · obtain ⟨p, h1, h2, h3⟩ := r.ob n ob h
    have hp : p ≠ d := fun z => hm (z ▸ List.mem_of_getElem? h1)
    refine ⟨p, h1, h2, ?_⟩
    have e : (lockW w d o u).H p = w.H p := upd_ne hp
    cases ob with
    | lst xs => obtain ⟨vs, z1, z2⟩ := h3; exact ⟨vs, e.trans z1, z2⟩
    | dic xs => obtain ⟨vs, z1, z2⟩ := h3; exact ⟨vs, e.trans z1, z2⟩
    | ins c fs => obtain ⟨dx, vs, z1, z2⟩ := h3; exact ⟨dx, vs, e.trans z1, z2⟩
    | dead => show (lockW w d o u).H p ≠ none; rw [e]; exact h3
theorem free_rel {K : PySem.W.Frag} {w : Wd} {S : Store} {d : Addr} {u : HO} (r : Rel K w S) (hf : w.F d = some u) : Rel K (freeW w d u) S := by
  have hm : d ∉ w.m := fun z => by rw [(r.out z).1] at hf; cases hf
  refine ⟨fun p v h => ?_, r.nd, r.ln, fun n ob h => ?_⟩
  · have h : w.F p = some v := h
    by_cases e : p = d
    · subst e
      obtain rfl : u = v := Option.some.inj (hf.symm.trans h)
      exact .inl upd_same
    · rcases r.fz p v h with z | ⟨o', z⟩
      · exact .inl (by show upd w.H d _ p = _; rw [upd_ne e]; exact z)
      · exact .inr ⟨o', by show upd w.H d _ p = _; rw [upd_ne e]; exact z⟩
  · obtain ⟨p, h1, h2, h3⟩ := r.ob n ob h
    have hp : p ≠ d := fun z => hm (z ▸ List.mem_of_getElem? h1)
    refine ⟨p, h1, h2, ?_⟩
    have e : (freeW w d u).H p = w.H p := upd_ne hp
    cases ob with
    | lst xs => obtain ⟨vs, z1, z2⟩ := h3; exact ⟨vs, e.trans z1, z2⟩
    | dic xs => obtain ⟨vs, z1, z2⟩ := h3; exact ⟨vs, e.trans z1, z2⟩
    | ins c fs => obtain ⟨dx, vs, z1, z2⟩ := h3; exact ⟨dx, vs, e.trans z1, z2⟩
    | dead => show (freeW w d u).H p ≠ none; rw [e]; exact h3
theorem lock_back {K : PySem.W.Frag} {w w' : Wd} {S : Store} {d : Addr} {o : Obj} {u : HO} (r : Rel K w S) (hf : w.F d = some u) (hd : w.H d = some u) (x : Ext (lockW w d o u) w') : w'.H d = some (.frz o u) ∧ w'.F d = some u ∧ Ext w (freeW w' d u) := by
  have hm : d ∉ w.m := fun z => by rw [(r.out z).1] at hf; cases hf
  have h0 : (lockW w d o u).H d = some (.frz o u) := upd_same
  have nn : ∀ p, (lockW w d o u).H p = none → w.H p = none := fun p h => by
    by_cases e : p = d
    · subst e; rw [h0] at h; cases h
    · rw [← show (lockW w d o u).H p = w.H p from upd_ne e]; exact h
  refine ⟨x.keep _ _ h0 hm, x.fr _ _ hf, x.fr, x.mp, fun p ob h hp => ?_, fun p h => (x.fn p h).imp id (nn p), fun p h => (x.mn p h).imp id (nn p), fun p h => ?_⟩
  · by_cases e : p = d
    · subst e; rw [hd] at h; cases h; exact upd_same
    · show upd w'.H d u p = _
      rw [upd_ne e]
      exact x.keep p ob ((show (lockW w d o u).H p = w.H p from upd_ne e).trans h) hp
  · show upd w'.H d u p ≠ none
    by_cases e : p = d
    · subst e; rw [upd_same]; simp
    · rw [upd_ne e]
      exact x.mono p (by rw [show (lockW w d o u).H p = w.H p from upd_ne e]; exact h)
theorem lock_ends {K : PySem.W.Frag} {W : WX} {w : Wd} {S : Store} {d : Addr} {o : Obj} {u : HO} {out : RS} {D : Ends} (r : Rel K w S) (hf : w.F d = some u) (hd : w.H d = some u) (h : PoS K W w (noX out) D) :
    PoS K W (lockW w d o u) out ⟨fun σ' H' => H' d = some (.frz o u) ∧ D.nx σ' (upd H' d u), fun v H' => H' d = some (.frz o u) ∧ D.rt v (upd H' d u), fun σ' H' => H' d = some (.frz o u) ∧ D.bk σ' (upd H' d u), fun σ' H' => H' d = some (.frz o u) ∧ D.ct σ' (upd H' d u)⟩ := by
  cases out with
  | nx e S' =>
    intro w' σ' x r' re
    obtain ⟨h1, h2, h3⟩ := lock_back r hf hd x
    exact ⟨h1, h (freeW w' d u) σ' h3 (free_rel r' h2) re⟩
  | rt a S' =>
    intro w' v x r' ra
    obtain ⟨h1, h2, h3⟩ := lock_back r hf hd x
    exact ⟨h1, h (freeW w' d u) v h3 (free_rel r' h2) ra⟩
  | bk e S' =>
    intro w' σ' x r' re
    obtain ⟨h1, h2, h3⟩ := lock_back r hf hd x
    exact ⟨h1, h (freeW w' d u) σ' h3 (free_rel r' h2) re⟩
  | ct e S' =>
    intro w' σ' x r' re
    obtain ⟨h1, h2, h3⟩ := lock_back r hf hd x
    exact ⟨h1, h (freeW w' d u) σ' h3 (free_rel r' h2) re⟩
  | exc _ _ _ => exact h.elim
  | bad => exact h.elim
theorem PoS.noX {K : PySem.W.Frag} {W : WX} {w : Wd} {out : RS} {D : Ends} (h : PoS K W w (noX out) D) : PoS K W w out D := by
  cases out with
  | exc _ _ _ => exact h.elim
  | _ => exact h
section
variable {X : Cx} {W : WX} {tg iter : Expr} {body : List Stmt} {g : CG} {b : CS} {ks : List Nat} {pos : Pos}
theorem PS.either {st : Stmt} {t t' : TS} (h : PS X st t) (h' : PS X st t') : PS X st fun D σ H => t D σ H ∨ t' D σ H := ⟨fun pins s σ H D I q => q.elim (h.run pins s σ H D I) (h'.run pins s σ H D I)⟩
theorem x_forD {st : Stmt} {wi : TI} {J : Addr → Obj → List (Key × V) → It} {i : Nat} {f : A → Option (List A)} (hst : PS X st (tFor wi (tG X.K W g) (tS X.K W b))) (hpl : Plain g)
    (hwi : ∀ (σ : SV) (H : Hp) (R : It → Hp → Prop) (d : Addr) (o : Obj) (vs : List (Key × V)), σ[i]? = some (some (.ref d)) → H d = some (.frz o (.dK vs)) → R (J d o vs) H → wi σ H R)
    (hf : ∀ a xs, f a = some xs → ∃ kvs, a = .dic kvs ∧ ∀ d o vs, WalkerM X.K (J d o vs) xs (LockOk X.K d o kvs vs)) : PS X st (tS X.K W (sForD f i g b ks)) := by
  refine PS.weak (PS.either (ps_lock hst) hst) fun D σ H ⟨w, e, S, eH, r, re, h⟩ => ?_
  subst eH
  unfold sForD at h
  cases q : e[i]? with
  | none => rw [q] at h; exact h.elim
  | some oa =>
    rw [q] at h
    cases oa with
    | none => exact h.elim
    | some a =>
      simp only at h
      cases q2 : f a with
      | none => rw [q2] at h; exact h.elim
      | some xs =>
        rw [q2] at h
        obtain ⟨kvs, rfl, Wk⟩ := hf a xs q2
        obtain ⟨v, hv, ra⟩ := re.get q
        cases ra with
        | @dic _ d vs h1 h2 =>
          have hm : d ∉ w.m := fun z => by rw [(r.out z).1] at h1; cases h1
          rcases r.fz _ _ h1 with z | ⟨o, z⟩
          · refine .inl ⟨d, .dK vs, z, trivial, fun od => ?_⟩
            refine hwi σ _ _ d od vs hv upd_same ?_
            exact walk_forM (Wk d od vs) hpl (lock_rel r h1) re ⟨upd_same, hm, h2⟩ (lock_ends r h1 z h)
          · exact .inr (hwi σ _ _ d o vs hv z (walk_forM (Wk d o vs) hpl r re ⟨z, hm, h2⟩ (PoS.noX h)))
theorem x_forK (i : Nat) {x : Str} {p : Pos} (hp : PassesOwn (model X.prog X.w) X.A X.env X.xe) (hc : X.calm = true) (hg : PG X tg (tG X.K W g)) (hb : PSs X body (tS X.K W b)) (hpl : Plain g)
    (hN : X.N[i]? = some x := by rfl) (hv : Vis X.env.scope x := by first | exact Or.inl rfl | exact Or.inr (Or.inl rfl) | exact Or.inr (Or.inr rfl)) (hd : (x == ("__debug__" : Str)) = false := by decide)
    (hcd : (x == ("__classdict__" : Str)) = false := by decide) (hf : ∀ y, foldedSetIterable (.Name x p) X.env y = pure y := by intro _; rfl) :
    PS X (.For tg (.Name x p) body [] pos) (tS X.K W (sForD itemsK i g b ks)) := by
  refine x_forD (J := fun d o vs => Itk d o vs) (ps_for hp hc (pi_keys (pe_var hN hv hd hcd)) hg hb hf) hpl (fun σ H R d o vs h1 h2 h3 => ⟨_, h1, d, o, rfl, .inl ⟨vs, h2, h3⟩⟩) fun a xs h => ?_
  cases a with
  | dic kvs => cases h; exact ⟨kvs, rfl, fun d o vs => walker_keys⟩
  | _ => cases h
theorem x_forP (i : Nat) {elts : List Expr} {kk : Nat} {tpos : Pos} {x : Str} {p apos cpos : Pos} (hp : PassesOwn (model X.prog X.w) X.A X.env X.xe) (hc : X.calm = true) (hg : PG X (.Tuple elts kk tpos) (tG X.K W g)) (hb : PSs X body (tS X.K W b)) (hpl : Plain g)
    (hN : X.N[i]? = some x := by rfl) (hv : Vis X.env.scope x := by first | exact Or.inl rfl | exact Or.inr (Or.inl rfl) | exact Or.inr (Or.inr rfl)) (hd : (x == ("__debug__" : Str)) = false := by decide)
    (hcd : (x == ("__classdict__" : Str)) = false := by decide) (hbase : attributeBase (.Name x p) "items" X.env (eval (.Name x p) X.env) = eval (.Name x p) X.env := by rfl) (hline : (apos.endLine == cpos.line) = true := by rfl)
    (hf : ∀ y, foldedSetIterable (.Call (.Attribute (.Name x p) "items" apos) [] [] cpos) X.env y = pure y := by intro _; rfl) :
    PS X (.For (.Tuple elts kk tpos) (.Call (.Attribute (.Name x p) "items" apos) [] [] cpos) body [] pos) (tS X.K W (sForD itemsP i g b ks)) := by
  refine x_forD (J := fun d o vs => Iti d o vs) (ps_for hp hc (pi_items (pe_var hN hv hd hcd) hbase hline) hg hb hf) hpl (fun σ H R d o vs h1 h2 h3 => ⟨_, h1, d, o, vs, rfl, h2, h3⟩) fun a xs h => ?_
  cases a with
  | dic kvs => cases h; exact ⟨kvs, rfl, fun d o vs => walker_pairs⟩
  | _ => cases h
end
end VM
end
section
set_option Elab.async false
set_option linter.all false
set_option maxRecDepth 100000
set_option maxHeartbeats 4000000
set_option autoImplicit false
/-! Dicts compared. -/
namespace VM
open PySem PySem.Spec PyProof.Rows L2
def hitsA (ls : List (Key × A)) : List (Key × A) → Option Bool
  | [] => some true
  | (k, a) :: r => (match getK ls k with
    | none => some false
    | some b => (match eqData a b, hitsA ls r with
      | some e, some t => some (e && t)
      | _, _ => none))
def eqDic (ks ls : List (Key × A)) : Option Bool := if ks.length = ls.length then hitsA ls ks else some false
def eqA2 (a b : A) : Option Bool := match a, b with
  | .dic ks, .dic ls => eqDic ks ls
  | a, b => eqA a b
def opEq2 (a b : A) : M A := fun S => match eqA2 a b with
  | some k => .ok (.bl k) S
  | none => .bad
def opNe2 (a b : A) : M A := fun S => match eqA2 a b with
  | some k => .ok (.bl (!k)) S
  | none => .bad
/-- the hits of two dicts' values, by data -/
inductive HitsD (K : PySem.W.Frag) (H : Hp) (ls : List (Key × V)) : List (Key × V) → Bool → Prop
  | nil : HitsD K H ls [] true
  | miss {k : Key} {v : V} {r : List (Key × V)} : valV ls k = none → HitsD K H ls ((k, v) :: r) false
  | hit {k : Key} {v u : V} {r : List (Key × V)} {d e : PyData} {t : Bool} : valV ls k = some u → Dp K H v d → Dp K H u e → SeqAt.shaped d = true → SeqAt.shaped e = true → HitsD K H ls r t → HitsD K H ls ((k, v) :: r) (PyData.eqv d e && t)
def rDicE (K : PySem.W.Frag) (neg : Bool) : R2 := fun x y H Q => ∃ p q ks ls r, x = .ref p ∧ y = .ref q ∧ Rd H p (.dK ks) ∧ Rd H q (.dK ls) ∧ (ks.length = ls.length → HitsD K H ls ks r) ∧ Q (.bl (if neg then !(ks.length == ls.length && r) else (ks.length == ls.length && r))) H
section
variable {X : Cx} {pins : List (Addr × Obj)} {σ : SV} {H : Hp} {s : Shared}
theorem dK_at (I : Inv X pins σ H s) {p : Addr} {ks : List (Key × V)} (h : Rd H p (.dK ks)) : ObjOk X.prog X.w H s.heap p (.dK ks) := by
  rcases h with h | ⟨o, h⟩
  · exact I.hok p _ h
  · exact (I.hok p _ h).2
theorem hitsD_run (I : Inv X pins σ H s) {A : Around} (hu : A.in1.units + 64 < cLine) {ls : List (Key × V)} {vb : List (Key × Value)} (rb : KV ls vb) {ks : List (Key × V)} {va : List (Key × Value)} (ra : KV ks va) {t : Bool}
    (h : HitsD X.K H ls ks t) : PySem.W.KeqHits A.in1 s vb va t := by
  induction h generalizing va with
  | nil => cases ra; exact .nil
  | @miss k v r hn =>
    cases ra with
    | @cons _ q _ qs h1 h2 =>
      obtain ⟨j, z⟩ := q
      obtain ⟨e1, e2⟩ := h1
      have e1 : k = j := e1
      subst e1
      have q := rb.val k
      rw [hn] at q
      refine .miss ?_
      cases e : valueAt vb k with
      | none => rfl
      | some y => rw [e] at q; exact (show False from q).elim
  | @hit k v u r d e t hv d1 d2 s1 s2 _ ih =>
    cases ra with
    | @cons _ q _ qs h1 h2 =>
      obtain ⟨j, z⟩ := q
      obtain ⟨e1, e2⟩ := h1
      have e1 : k = j := e1
      subst e1
      have rr : RelO (some u) (valueAt vb k) := by rw [← hv]; exact rb.val k
      obtain ⟨y, hy, ry⟩ := rr.some_of
      obtain ⟨as, q1⟩ := Dp.reads I d v z d1 e2
      obtain ⟨bs, q2⟩ := Dp.reads I e u y d2 ry
      exact .hit hy (PySem.W.keq_at q1 q2 s1 s2 hu) (ih h2)
end
section
variable {X : Cx}
theorem op_dicE (hu : X.A.in1.units + 64 < cLine) : OpR X (compareOp .Eq) (rDicE X.K false) := by
  intro pins s σ H x y v u Q I rx ry h
  obtain ⟨p, q, ks, ls, r, rfl, rfl, h1, h2, hh, hq⟩ := h
  cases rx; cases ry
  obtain ⟨_, ya, va, ra, da⟩ := dK_at I h1
  obtain ⟨_, yb, vb, rb, db⟩ := dK_at I h2
  have l1 : ks.length = va.length := Paired.length ra
  have l2 : ls.length = vb.length := Paired.length rb
  refine PySem.W.keq_eq (knd := mixKind X.prog X.w) ya yb da db (by have : X.A.in1.units = X.A.units + 1 := rfl; omega) (fun e => hitsD_run I hu rb ra (hh (by omega))) ⟨.bl _, H, I, rfl, ?_⟩
  rw [← l1, ← l2]; exact hq
theorem op_dicN (hu : X.A.in1.units + 64 < cLine) : OpR X (compareOp .NotEq) (rDicE X.K true) := by
  intro pins s σ H x y v u Q I rx ry h
  obtain ⟨p, q, ks, ls, r, rfl, rfl, h1, h2, hh, hq⟩ := h
  cases rx; cases ry
  obtain ⟨_, ya, va, ra, da⟩ := dK_at I h1
  obtain ⟨_, yb, vb, rb, db⟩ := dK_at I h2
  have l1 : ks.length = va.length := Paired.length ra
  have l2 : ls.length = vb.length := Paired.length rb
  refine PySem.W.keq_ne (knd := mixKind X.prog X.w) ya yb da db (by have : X.A.in1.units = X.A.units + 1 := rfl; omega) (fun e => hitsD_run I hu rb ra (hh (by omega))) ⟨.bl _, H, I, rfl, ?_⟩
  rw [← l1, ← l2]; exact hq
end
def rEq2 (K : PySem.W.Frag) : R2 := fun x y H Q => rEqA K x y H Q ∨ rDicE K false x y H Q
def rNe2 (K : PySem.W.Frag) : R2 := fun x y H Q => rNeA K x y H Q ∨ rDicE K true x y H Q
theorem Cok.hu1 {X : Cx} {W : WX} {k : Nat} (O : Cok X W k) : X.A.in1.units + 64 < cLine := by
  have := O.hr.un
  have e : X.A.in1.units = X.A.units + 1 := rfl
  omega
theorem or_eq2 {X : Cx} {W : WX} {k : Nat} (O : Cok X W k) : OpR X (compareOp .Eq) (rEq2 X.K) := (or_eq O).or (op_dicE O.hu1)
theorem or_ne2 {X : Cx} {W : WX} {k : Nat} (O : Cok X W k) : OpR X (compareOp .NotEq) (rNe2 X.K) := (or_ne O).or (op_dicN O.hu1)
theorem hitsA_ok {K : PySem.W.Frag} {w : Wd} {S : Store} (r : Rel K w S) {ls : List (Key × A)} {us : List (Key × V)} (rl : RAk K w.F w.m ls us) : ∀ (ks : List (Key × A)) (vs : List (Key × V)) (t : Bool), RAk K w.F w.m ks vs → hitsA ls ks = some t → HitsD K w.H us vs t
  | [], _, t, h1, h => by cases h1; cases h; exact .nil
  | (k, a) :: ks, _, t, h1, h => by
    cases h1 with
    | @cons _ _ v _ vs h1 h2 =>
      unfold hitsA at h
      have g := getK_ok rl k
      cases e : getK ls k with
      | none =>
        rw [e] at h g
        cases h
        exact .miss g
      | some b =>
        rw [e] at h g
        obtain ⟨u, g1, g2⟩ := g
        simp only at h
        split at h
        · rename_i e1 t1 q1 q2
          cases h
          obtain ⟨d, e', d1, d2, s1, s2, ev⟩ := eqData_ok r h1 g2 q1
          rw [← ev]
          exact .hit g1 d1 d2 s1 s2 (hitsA_ok r rl ks vs t1 h2 q2)
        · cases h
theorem eqDic_ok {K : PySem.W.Frag} {w : Wd} {S : Store} {ks ls : List (Key × A)} {x y : V} {Q : VK} {k neg : Bool} (r : Rel K w S) (ra : RA K w.F w.m (.dic ks) x) (rb : RA K w.F w.m (.dic ls) y) (h : eqDic ks ls = some k) (q : Q (.bl (if neg then !k else k)) w.H) : rDicE K neg x y w.H Q := by
  cases ra with
  | @dic _ p vs h1 h2 =>
    cases rb with
    | @dic _ p' us h3 h4 =>
      unfold eqDic at h
      have l1 := h2.length
      have l2 := h4.length
      split at h
      · rename_i hl
        refine ⟨p, p', vs, us, k, rfl, rfl, r.fz _ _ h1, r.fz _ _ h3, fun _ => hitsA_ok r h4 ks vs k h2 h, ?_⟩
        rw [show (vs.length == us.length) = true from beq_iff_eq.mpr (by omega), Bool.true_and]
        exact q
      · rename_i hl
        cases h
        refine ⟨p, p', vs, us, false, rfl, rfl, r.fz _ _ h1, r.fz _ _ h3, fun z => absurd z (by omega), ?_⟩
        rw [Bool.and_false]
        exact q
theorem f_eq2 {K : PySem.W.Frag} : Op2 K (rEq2 K) opEq2 := by
  intro w S σ W a b x y Q r ra rb h
  unfold opEq2 at h
  cases e : eqA2 a b with
  | none => rw [e] at h; exact h.elim
  | some k =>
    rw [e] at h
    unfold eqA2 at e
    split at e
    · exact .inr (eqDic_ok (neg := false) r ra rb e (Po.now h r (.bl _)))
    · refine .inl (f_eq w S σ W a b x y Q r ra rb ?_)
      unfold opEq
      rw [e]
      exact h
theorem f_ne2 {K : PySem.W.Frag} : Op2 K (rNe2 K) opNe2 := by
  intro w S σ W a b x y Q r ra rb h
  unfold opNe2 at h
  cases e : eqA2 a b with
  | none => rw [e] at h; exact h.elim
  | some k =>
    rw [e] at h
    unfold eqA2 at e
    split at e
    · exact .inr (eqDic_ok (neg := true) r ra rb e (Po.now h r (.bl _)))
    · refine .inl (f_ne w S σ W a b x y Q r ra rb ?_)
      unfold opNe
      rw [e]
      exact h
end VM
end
section
set_option Elab.async false
set_option linter.all false
set_option maxRecDepth 100000
set_option maxHeartbeats 4000000
set_option autoImplicit false
/-! Defs whose own things with handles are frozen when they end. -/
namespace VM
open PySem PySem.Spec PyProof.Rows L2
mutual
def upTo (n : Nat) : A → Bool
  | .ref k => decide (k < n)
  | .tup xs => upToL n xs
  | .lst xs => upToL n xs
  | .dic kvs => upToK n kvs
  | .non => true
  | .bl _ => true
  | .int _ => true
  | .str _ => true
  | .fn _ => true
def upToL (n : Nat) : List A → Bool
  | [] => true
  | x :: xs => upTo n x && upToL n xs
def upToK (n : Nat) : List (Key × A) → Bool
  | [] => true
  | (_, x) :: xs => upTo n x && upToK n xs
end
def upToF (n : Nat) (fs : List (Str × A)) : Bool := fs.all fun p => upTo n p.2
def upToO (n : Nat) : O → Bool
  | .lst xs => upToL n xs
  | .dic xs => upToK n xs
  | .ins _ fs => upToF n fs
  | .dead => true
def fzU : Nat → Nat → Store → A → Option A
  | 0, m, _, a => if upTo m a then some a else none
  | n + 1, m, S, a => if upTo m a then some a else match a with
    | .ref k => (match S[k]? with
      | some (.lst xs) => (optMap (fzU n m S) xs).map .lst
      | some (.dic kvs) => (optMapK (fzU n m S) kvs).map .dic
      | _ => none)
    | .tup xs => (optMap (fzU n m S) xs).map .tup
    | .lst xs => (optMap (fzU n m S) xs).map .lst
    | .dic kvs => (optMapK (fzU n m S) kvs).map .dic
    | _ => none
/-- what is new is frozen, the rest of the store stays -/
def scopeR (n : Nat) (r : R A) : R A := match r with
  | .ok a S' => if (S'.take n).all (upToO n) then (match fzU 4 n S' a with
    | some b => .ok b (S'.take n)
    | none => .bad) else .bad
  | .exc x S' => if (S'.take n).all (upToO n) && upToF n x.fs then .exc x (S'.take n) else .bad
  | .bad => .bad
def scopeF (f : List A → M A) : List A → M A := fun as S => scopeR S.length (f as S)
section
variable {K : PySem.W.Frag} {F F' : Hp} {m m' : List Addr} {n : Nat}
mutual
theorem RA.upTo (hF : ∀ p u, F p = some u → F' p = some u) (hm : ∀ k, k < n → m'[k]? = m[k]?) : ∀ {a : A} {v : V}, RA K F m a v → VM.upTo n a = true → RA K F' m' a v
  | _, _, .non, _ => .non
  | _, _, .bl b, _ => .bl b
  | _, _, .int i, _ => .int i
  | _, _, .str s, _ => .str s
  | _, _, .tup h r, c => .tup (h.imp (hF _ _) id) (RAs.upTo hF hm r c)
  | _, _, .lst h r, c => .lst (h.imp (hF _ _) id) (RAs.upTo hF hm r c)
  | _, _, .dic h r, c => .dic (hF _ _ h) (RAk.upTo hF hm r c)
  | _, _, .ref (n := k) h, c => .ref ((hm k (of_decide_eq_true c)).trans h)
  | _, _, .fn x, _ => .fn x
theorem RAs.upTo (hF : ∀ p u, F p = some u → F' p = some u) (hm : ∀ k, k < n → m'[k]? = m[k]?) : ∀ {a : List A} {v : List V}, RAs K F m a v → upToL n a = true → RAs K F' m' a v
  | _, _, .nil, _ => .nil
  | _, _, .cons h r, c => by
    simp only [upToL, Bool.and_eq_true] at c
    exact .cons (RA.upTo hF hm h c.1) (RAs.upTo hF hm r c.2)
theorem RAk.upTo (hF : ∀ p u, F p = some u → F' p = some u) (hm : ∀ k, k < n → m'[k]? = m[k]?) : ∀ {a : List (Key × A)} {v : List (Key × V)}, RAk K F m a v → upToK n a = true → RAk K F' m' a v
  | _, _, .nil, _ => .nil
  | _, _, .cons h r, c => by
    simp only [upToK, Bool.and_eq_true] at c
    exact .cons (RA.upTo hF hm h c.1) (RAk.upTo hF hm r c.2)
end
theorem RAf.upTo (hF : ∀ p u, F p = some u → F' p = some u) (hm : ∀ k, k < n → m'[k]? = m[k]?) {a : List (Str × A)} {v : List (Str × V)} (h : RAf K F m a v) (c : upToF n a = true) : RAf K F' m' a v := by
  induction h with
  | nil => exact .nil
  | cons h _ ih =>
    simp only [upToF, List.all_cons, Bool.and_eq_true] at c
    exact .cons (RA.upTo hF hm h c.1) (ih c.2)
end
section
variable {K : PySem.W.Frag} {w w' : Wd} {S S' : Store}
def frozenU (w w' : Wd) : Hp := fun p => if p ∈ w'.m ∧ p ∉ w.m then (match w'.H p with
  | some (.lst l) => some (.lst l)
  | some (.dK l) => some (.dK l)
  | _ => none) else w'.F p
theorem frozenU_ge (r : Rel K w' S') : ∀ p u, w'.F p = some u → frozenU w w' p = some u := fun p u h => by
  unfold frozenU
  have : p ∉ w'.m := fun z => by rw [(r.out z).1] at h; cases h
  rw [if_neg (fun z => this z.1)]; exact h
theorem pre_m (e : Ext w w') (hn : w.m.length = S.length) : ∀ k, k < S.length → w.m[k]? = w'.m[k]? := fun k hk => by
  obtain ⟨l, hl⟩ := e.mp
  rw [hl, List.getElem?_append_left (by omega)]
theorem fzU_ok (e : Ext w w') (r : Rel K w' S') (hn : w.m.length = S.length) : ∀ (n : Nat) (a b : A) (v : V), fzU n S.length S' a = some b → RA K w'.F w'.m a v → RA K (frozenU w w') w.m b v
  | 0, a, b, v, h, ra => by
    unfold fzU at h
    split at h
    · rename_i c; cases h; exact ra.upTo (frozenU_ge r) (pre_m e hn) c
    · cases h
  | n + 1, a, b, v, h, ra => by
    have all : ∀ (xs ys : List A) (vs : List V), optMap (fzU n S.length S') xs = some ys → RAs K w'.F w'.m xs vs → RAs K (frozenU w w') w.m ys vs := by
      intro xs
      induction xs with
      | nil => intro ys vs h r; cases r; simp [optMap] at h; subst h; exact .nil
      | cons x xs ih =>
        intro ys vs h r'
        cases r' with
        | cons h1 h2 =>
          unfold optMap at h
          split at h
          · rename_i y ys' e1 e2
            cases h
            exact .cons (fzU_ok e r hn n _ _ _ e1 h1) (ih _ _ e2 h2)
          · cases h
    have allK : ∀ (xs ys : List (Key × A)) (vs : List (Key × V)), optMapK (fzU n S.length S') xs = some ys → RAk K w'.F w'.m xs vs → RAk K (frozenU w w') w.m ys vs := by
      intro xs
      induction xs with
      | nil => intro ys vs h r; cases r; simp [optMapK] at h; subst h; exact .nil
      | cons x xs ih =>
        intro ys vs h r'
        cases r' with
        | cons h1 h2 =>
          unfold optMapK at h
          split at h
          · rename_i y ys' e1 e2
            cases h
            exact .cons (fzU_ok e r hn n _ _ _ e1 h1) (ih _ _ e2 h2)
          · cases h
    unfold fzU at h
    split at h
    · rename_i c; cases h; exact ra.upTo (frozenU_ge r) (pre_m e hn) c
    · rename_i cc
      cases a with
      | ref k =>
        simp only at h
        cases ra with
        | @ref _ p hp =>
          have hm : p ∈ w'.m := List.mem_of_getElem? hp
          have hk : k < S'.length := by rw [← r.ln]; exact (List.getElem?_eq_some_iff.mp hp).1
          have hge : ¬ k < S.length := fun z => cc (by show decide (k < S.length) = true; exact decide_eq_true z)
          have hnm : p ∉ w.m := fun z => by
            obtain ⟨j, hj⟩ := List.mem_iff_getElem?.mp z
            have hjl := (List.getElem?_eq_some_iff.mp hj).1
            have hj' := pre_m e hn j (by omega)
            rw [hj] at hj'
            have nd := r.nd
            have a1 := (List.getElem?_eq_some_iff.mp hp)
            have a2 := (List.getElem?_eq_some_iff.mp hj'.symm)
            obtain ⟨b1, b2⟩ := a1
            obtain ⟨b3, b4⟩ := a2
            have hjk : j < k := by omega
            exact List.pairwise_iff_getElem.mp nd j k b3 b1 hjk (b4.trans b2.symm)
          obtain ⟨q, hq, _, ho⟩ := r.ob k S'[k] (List.getElem?_eq_getElem hk)
          rw [hp] at hq; cases hq
          rw [List.getElem?_eq_getElem hk] at h
          cases e0 : S'[k] with
          | lst xs =>
            rw [e0] at h ho
            obtain ⟨vs, h1, h2⟩ := ho
            simp only [Option.map_eq_some_iff] at h
            obtain ⟨ys, e1, rfl⟩ := h
            exact .lst (.inl (by unfold frozenU; rw [if_pos ⟨hm, hnm⟩, h1])) (all _ _ _ e1 h2)
          | dic xs =>
            rw [e0] at h ho
            obtain ⟨vs, h1, h2⟩ := ho
            simp only [Option.map_eq_some_iff] at h
            obtain ⟨ys, e1, rfl⟩ := h
            exact .dic (by unfold frozenU; rw [if_pos ⟨hm, hnm⟩, h1]) (allK _ _ _ e1 h2)
          | ins _ _ => rw [e0] at h; cases h
          | dead => rw [e0] at h; cases h
      | tup xs =>
        simp only [Option.map_eq_some_iff] at h
        obtain ⟨ys, e1, rfl⟩ := h
        cases ra with
        | tup h1 h2 => exact .tup (h1.imp (frozenU_ge r _ _) id) (all _ _ _ e1 h2)
      | lst xs =>
        simp only [Option.map_eq_some_iff] at h
        obtain ⟨ys, e1, rfl⟩ := h
        cases ra with
        | lst h1 h2 => exact .lst (h1.imp (frozenU_ge r _ _) id) (all _ _ _ e1 h2)
      | dic xs =>
        simp only [Option.map_eq_some_iff] at h
        obtain ⟨ys, e1, rfl⟩ := h
        cases ra with
        | dic h1 h2 => exact .dic (frozenU_ge r _ _ h1) (allK _ _ _ e1 h2)
      | _ => simp at h
theorem backU (r0 : Rel K w S) (e : Ext w w') (r : Rel K w' S') (hu : (S'.take S.length).all (upToO S.length) = true) : Ext w ⟨frozenU w w', w.m, w'.H⟩ ∧ Rel K ⟨frozenU w w', w.m, w'.H⟩ (S'.take S.length) := by
  have ge := frozenU_ge (w := w) r
  have pre := pre_m e r0.ln
  have hlen : S.length ≤ S'.length := by
    rw [← r0.ln, ← r.ln]
    obtain ⟨l, hl⟩ := e.mp
    rw [hl, List.length_append]; omega
  have fnn : ∀ p, frozenU w w' p ≠ none → w.F p ≠ none ∨ w.H p = none := fun p h => by
    by_cases z : p ∈ w'.m ∧ p ∉ w.m
    · rcases e.mn p z.1 with y | y
      · exact absurd y z.2
      · exact .inr y
    · unfold frozenU at h
      rw [if_neg z] at h
      exact e.fn p h
  refine ⟨⟨fun p u h => ge p u (e.fr p u h), ⟨[], by simp⟩, e.keep, fnn, fun p h => .inl h, e.mono⟩, ⟨fun p u h => ?_, r0.nd, ?_, fun n o h => ?_⟩⟩
  · have h : frozenU w w' p = some u := h
    unfold frozenU at h
    split at h
    · split at h
      · rename_i l q; cases h; exact .inl q
      · rename_i l q; cases h; exact .inl q
      · cases h
    · exact r.fz p u h
  · rw [List.length_take, r0.ln]; omega
  · have hn : n < S.length := by
      have := (List.getElem?_eq_some_iff.mp h).1
      rw [List.length_take] at this; omega
    rw [List.getElem?_take_of_lt hn] at h
    obtain ⟨p, h1, h2, h3⟩ := r.ob n o h
    have h1' : w.m[n]? = some p := (pre n hn).trans h1
    have hpm : p ∈ w.m := List.mem_of_getElem? h1'
    have hup : upToO S.length o = true := by
      have := List.all_eq_true.mp hu o (List.mem_of_getElem? (i := n) (by rw [List.getElem?_take_of_lt hn]; exact h))
      exact this
    refine ⟨p, h1', ?_, ?_⟩
    · show frozenU w w' p = none
      unfold frozenU
      rw [if_neg (fun z => z.2 hpm)]; exact h2
    · cases o with
      | lst xs => obtain ⟨us, z1, z2⟩ := h3; exact ⟨us, z1, z2.upTo ge pre hup⟩
      | dic xs => obtain ⟨us, z1, z2⟩ := h3; exact ⟨us, z1, z2.upTo ge pre hup⟩
      | ins c fs => obtain ⟨dx, us, z1, z2⟩ := h3; exact ⟨dx, us, z1, z2.upTo ge pre hup⟩
      | dead => exact h3
end
theorem spOf_scope {K : PySem.W.Frag} {n : Nat} {f : List A → M A} {vs : List V} {H : Hp} {Q : VK} {E : XK} (h : spOf K n (scopeF f) vs H Q E) : spOf K n f vs H Q E := by
  obtain ⟨hn, w, S, as, rfl, r, ra, h⟩ := h
  refine ⟨hn, w, S, as, rfl, r, ra, ?_⟩
  unfold scopeF scopeR at h
  cases q : f as S with
  | ok a S' =>
    rw [q] at h
    simp only at h
    split at h
    · rename_i hu
      cases q2 : fzU 4 S.length S' a with
      | some b =>
        rw [q2] at h
        intro w' v e' r' ra'
        obtain ⟨ex, rr⟩ := backU r e' r' hu
        exact h ⟨frozenU w w', w.m, w'.H⟩ v ex rr (fzU_ok e' r' r.ln 4 a b v q2 ra')
      | none => rw [q2] at h; exact h.elim
    · exact h.elim
  | exc x S' =>
    rw [q] at h
    simp only at h
    split at h
    · rename_i hu
      obtain ⟨hu, cx⟩ := Bool.and_eq_true_iff.mp hu
      intro w' c d e' r' rx
      obtain ⟨ex, rr⟩ := backU r e' r' hu
      refine h ⟨frozenU w w', w.m, w'.H⟩ c d ex rr ⟨rx.1, ?_⟩
      cases d with
      | none => exact rx.2
      | some d => obtain ⟨fs, h1, h2⟩ := rx.2; exact ⟨fs, h1, h2.upTo (frozenU_ge r') (pre_m e' r.ln) cx⟩
    · exact h.elim
  | bad => rw [q] at h; exact h.elim
section
variable {P : Program} {w : World} {K : PySem.W.Frag} {mg : Str → Option Value} {base : Heap} {x : Str} {n k : Nat} {f : List A → M A}
theorem Has.scope (h : Has P w K mg base x n k f) : Has P w K mg base x n k (scopeF f) := ⟨h.gl, h.kp, by
  obtain ⟨fd, ps, b, l, F⟩ := h.fn
  exact ⟨fd, ps, b, l, F.imp fun vs H Q E q => spOf_scope q⟩⟩
end
/-! a, b = x, y -/
def sPar2 (i j : Nat) (cl : CL) : CS := fun e S => match cl e S with
  | .ok [v, u] S' => .nx ((e.set i (some v)).set j (some u)) S'
  | .ok _ _ => .bad
  | .exc x S' => .exc x e S'
  | .bad => .bad
def sPar3 (i j l : Nat) (cl : CL) : CS := fun e S => match cl e S with
  | .ok [v, u, t] S' => .nx (((e.set i (some v)).set j (some u)).set l (some t)) S'
  | .ok _ _ => .bad
  | .exc x S' => .exc x e S'
  | .bad => .bad
section
variable {X : Cx} {W : WX} {a b c : Expr} {cl : CL} {x y z : Str} {px py pz pt pos pt2 : Pos} {kt k2 : _}
theorem x_par2 (i j : Nat) (hc : X.calm = true) (hN : X.N.Nodup) (ha : PA X [a, b] (tL X.K W cl)) (hi : X.N[i]? = some x := by rfl) (hj : X.N[j]? = some y := by rfl) (hij : i ≠ j := by decide)
    (hx : X.env.scope.names.lookup x = some .local := by rfl) (hy : X.env.scope.names.lookup y = some .local := by rfl)
    (hw : swappedStores [.Tuple [.Name x px, .Name y py] kt pt] (.Tuple [a, b] k2 pt2) X.env = pure (some [x, y]) := by rfl)
    (hs : swapsWithSole [.Tuple [.Name x px, .Name y py] kt pt] (.Tuple [a, b] k2 pt2) pos.line X.env = pure false := by rfl) :
    PS X (.Assign [.Tuple [.Name x px, .Name y py] kt pt] (.Tuple [a, b] k2 pt2) pos) (tS X.K W (sPar2 i j cl)) := by
  refine PS.weak (ps_par hc hN hi hj hij hx hy ha hw hs) fun D σ H ⟨w, e, S, eH, r, re, h⟩ => ?_
  refine ⟨w, e, S, eH, r, re, ?_⟩
  unfold sPar2 at h
  cases q : cl e S with
  | ok vs S' =>
    rw [q] at h
    intro w' us e1 r1 q1
    split at h
    · rename_i vs v u S2 q2
      cases q2
      cases q1 with
      | cons h1 q1 =>
        cases q1 with
        | cons h2 q1 =>
          cases q1
          exact ⟨_, _, rfl, h w' _ e1 r1 (((re.ext e1).set h1 i).set h2 j)⟩
    · exact h.elim
    · rename_i q2; cases q2
    · exact h.elim
  | exc x S' => rw [q] at h; exact fun w' c d e1 r1 q1 => h w' σ c d e1 r1 (re.ext e1) q1
  | bad => rw [q] at h; exact h
theorem x_par3 (i j l : Nat) (hc : X.calm = true) (hN : X.N.Nodup) (ha : PA X [a, b, c] (tL X.K W cl)) (hi : X.N[i]? = some x := by rfl) (hj : X.N[j]? = some y := by rfl) (hl : X.N[l]? = some z := by rfl) (hij : i ≠ j := by decide) (hil : i ≠ l := by decide) (hjl : j ≠ l := by decide)
    (hx : X.env.scope.names.lookup x = some .local := by rfl) (hy : X.env.scope.names.lookup y = some .local := by rfl) (hz : X.env.scope.names.lookup z = some .local := by rfl)
    (hw : swappedStores [.Tuple [.Name x px, .Name y py, .Name z pz] kt pt] (.Tuple [a, b, c] k2 pt2) X.env = pure (some [x, y, z]) := by rfl)
    (hs : swapsWithSole [.Tuple [.Name x px, .Name y py, .Name z pz] kt pt] (.Tuple [a, b, c] k2 pt2) pos.line X.env = pure false := by rfl) :
    PS X (.Assign [.Tuple [.Name x px, .Name y py, .Name z pz] kt pt] (.Tuple [a, b, c] k2 pt2) pos) (tS X.K W (sPar3 i j l cl)) := by
  refine PS.weak (ps_par3 hc hN hi hj hl hij hil hjl hx hy hz ha hw hs) fun D σ H ⟨w, e, S, eH, r, re, h⟩ => ?_
  refine ⟨w, e, S, eH, r, re, ?_⟩
  unfold sPar3 at h
  cases q : cl e S with
  | ok vs S' =>
    rw [q] at h
    intro w' us e1 r1 q1
    split at h
    · rename_i vs v u t S2 q2
      cases q2
      cases q1 with
      | cons h1 q1 =>
        cases q1 with
        | cons h2 q1 =>
          cases q1 with
          | cons h3 q1 =>
            cases q1
            exact ⟨_, _, _, rfl, h w' _ e1 r1 ((((re.ext e1).set h1 i).set h2 j).set h3 l)⟩
    · exact h.elim
    · rename_i q2; cases q2
    · exact h.elim
  | exc x S' => rw [q] at h; exact fun w' c d e1 r1 q1 => h w' σ c d e1 r1 (re.ext e1) q1
  | bad => rw [q] at h; exact h
end
/-! the inside of a comprehension -/
section
variable {X : Cx} {W : WX} {k : Nat} {s : Shared} {H : Hp} {scope : Scope} {cenv : PySem.Env} {fp : List Addr}
theorem blkE {e : Expr} {t : TE} (O : Cok X W k) (f : Cok (X.blk s H scope cenv fp) W0 k → PE (X.blk s H scope cenv fp) e t) : PE (X.blk s H scope cenv fp) e t := f (O.blk s H scope cenv fp)
theorem blkG {e : Expr} {t : TG} (O : Cok X W k) (f : Cok (X.blk s H scope cenv fp) W0 k → PG (X.blk s H scope cenv fp) e t) : PG (X.blk s H scope cenv fp) e t := f (O.blk s H scope cenv fp)
theorem blkT {e : List Expr} {t : TT} (O : Cok X W k) (f : Cok (X.blk s H scope cenv fp) W0 k → PTs (X.blk s H scope cenv fp) e t) : PTs (X.blk s H scope cenv fp) e t := f (O.blk s H scope cenv fp)
end
end VM
end
section
set_option Elab.async false
set_option linter.all false
set_option maxRecDepth 100000
set_option maxHeartbeats 4000000
set_option autoImplicit false
/-! From the law's mirror to the row. -/
namespace VM
open PySem PySem.Spec PyProof.Rows L2
theorem fn_of {P : Program} {w : World} {K : PySem.W.Frag} {mg : Str → Option Value} {base : Heap} {x : Str} {k : Nat} {N ps : List Str} {st : Stmt} {fd : FuncData} {c : CS} (F : FunD K x x (defArgs st) (defBody st) (defScope st) [] [] (He.ga K x) fd) (S : FnScope N ps (defScope st))
    (d : ∀ (cdv : Value) (A : Around) (outer : List PySem.Env) (s : Shared) (H : Hp) (E : XK), Cok (cxOf (L2.CX P w) P w K mg base N x (defScope st) (He.ga K x) cdv A outer s H E) (fun c d _ H => E c d H) k →
      PSs (cxOf (L2.CX P w) P w K mg base N x (defScope st) (He.ga K x) cdv A outer s H E) (defBody st) (tS K (fun c d _ H => E c d H) c)) :
    FnOk P w K mg base (L2.CX P w) (k + 1) (He.ga K x) fd ps (spOf K ps.length (runBody N.length c)) :=
  F.ok S (fun vs H Q E h => h.1) fun cdv A outer s H vs Q E hr h => ⟨_, d cdv A outer s H E ⟨takes_of rfl rfl rfl rfl, passes_of rfl, rfl, hr⟩, body_rd h⟩
theorem cx_no {P : Program} {w : World} {H : Hp} {s : Shared} {e : Value} {s' : Shared} (h : L2.CX P w [] H s (fun _ _ _ => False) e s') : False := by
  obtain ⟨_, _, _, _, _, _, _, _, _, _, _, _, h⟩ := h
  exact h
theorem law_sp {K : PySem.W.Frag} {H : Hp} {a : Addr} {ns : List Int} {m : List A → M A} (hs : SqL K H a (ns.map V.int)) (hm : ∃ S', m [A.lst (ns.map .int)] [] = .ok (.bl true) S') : spOf K 1 m [.ref a] H (fun v _ => v = .bl true) fun _ _ _ => False := by
  obtain ⟨S', e⟩ := hm
  refine ⟨rfl, ?_⟩
  have fin : ∀ w : Wd, w.H = H → Rel K w [] → RA K w.F w.m (.lst (ns.map .int)) (.ref a) → ∃ w S as, w.H = H ∧ Rel K w S ∧ RAs K w.F w.m as [V.ref a] ∧ Po K (fun c d _ H' => (fun _ _ _ => False : XK) c d H') (rA K) w [] (m as S) (fun v _ => v = .bl true) := fun w h1 h2 h3 =>
    ⟨w, [], _, h1, h2, .cons h3 .nil, by rw [e]; intro w' v _ _ q; cases q; rfl⟩
  rcases hs with hs | hs
  · refine fin ⟨fun p => if p = a then some (.lst (ns.map V.int)) else none, [], H⟩ rfl ⟨fun p u h => ?_, List.nodup_nil, rfl, fun n o h => by simp at h⟩ (.lst (.inl (if_pos rfl)) (ints_RAs ns))
    have h : (if p = a then some (HO.lst (ns.map V.int)) else none) = some u := h
    split at h
    · rename_i e; cases h; subst e; exact hs
    · cases h
  · exact fin ⟨fun _ => none, [], H⟩ rfl ⟨fun p u h => (by cases h), List.nodup_nil, rfl, fun n o h => by simp at h⟩ (.lst (.inr hs) (ints_RAs ns))
theorem walk_vm {l : PySem.W.OpenLaw} {n k : Nat} {q : Program} {loose : List Str} {XP : (Str → Option Value) → Heap → Prop} {YP : World → Heap → Prop} {d : DefRec} {x : Str} {m : List A → M A}
    (hn : l.most = some n) (hn2 : n ≤ sizeLine) (hdf : d.params.defaults = []) (hr : Room k callerA)
    (F : ∀ (w : World) (mg : Str → Option Value) (fa : Addr) (h : Heap), YP w h → h.Ns mainGlobals mg → mg d.name = some (.ref fa) →
      ∃ (K : PySem.W.Frag) (fd : FuncData), K.In h ∧ (∀ (s : Shared) (u : Value), BindsTo s fd ⟨[u], []⟩ [(x, u)]) ∧
        ∀ base : Heap, K.In base → base.Ns mainGlobals mg → FnOk l.prog w K mg base (L2.CX l.prog w) k fa fd [x] (spOf K 1 m))
    (hm : ∀ ns : List Int, ns.length ≤ n → ∃ S', m [A.lst (ns.map .int)] [] = .ok (.bl true) S') :
    PySem.W.WalkO q loose XP YP l.row.toRowW d [] (fun f vs => PySem.call f vs) := by
  refine Att.attach_call hn hdf fun w s₀ s₁ mg mb fa o pm cd doc a vs ns G Y ho hd hcd hmg hobj hints hlen hg => ?_
  obtain ⟨K, fd, KX, hb, hF⟩ := F w mg fa _ Y G.T.g hmg
  exact law_call KX G.T.g G.T.b G.T.builtins G.T.nolimit hg hobj hints (Nat.le_trans hlen hn2) hr hF hb (fun H hO hS => law_sp hS (hm ns hlen)) fun H e s' => cx_no
end VM
end
section
set_option Elab.async false
set_option linter.all false
set_option maxRecDepth 100000
set_option maxHeartbeats 4000000
set_option autoImplicit false
/-! How the mirrors compute: equations for simp, each at its arguments. -/
namespace VM
open PySem PySem.Spec PyProof.Rows L2
def R.rb {α β : Type} (r : R α) (f : α → M β) : R β := match r with
  | .ok a S => f a S
  | .exc x S => .exc x S
  | .bad => .bad
def R.rs {α : Type} (r : R α) (e : Slots) (f : α → Store → RS) : RS := match r with
  | .ok a S => f a S
  | .exc x S => .exc x e S
  | .bad => .bad
def RS.th (r : RS) (f : CS) : RS := match r with
  | .nx e S => f e S
  | r => r
def RS.fin (r : RS) : R A := match r with
  | .nx _ S => .ok .non S
  | .rt a S => .ok a S
  | .exc x _ S => .exc x S
  | _ => .bad
section
variable {α β : Type} {a b : C} {f g : A → A → M A} {e : Slots} {S S' : Store} {x y : A} {k : Bool}
@[simp] theorem rb_ok (v : α) (F : α → M β) : (R.ok v S).rb F = F v S := Eq.trans rfl (Eq.refl _)
@[simp] theorem rb_exc (x : Exn) (F : α → M β) : (R.exc x S : R α).rb F = .exc x S := rfl
@[simp] theorem rb_bad (F : α → M β) : (R.bad : R α).rb F = .bad := rfl
@[simp] theorem rs_ok (v : α) (F : α → Store → RS) : (R.ok v S).rs e F = F v S := Eq.trans rfl (Eq.refl _)
@[simp] theorem rs_exc (x : Exn) (F : α → Store → RS) : (R.exc x S : R α).rs e F = .exc x e S := rfl
@[simp] theorem rs_bad (F : α → Store → RS) : (R.bad : R α).rs e F = .bad := rfl
@[simp] theorem th_nx (F : CS) : (RS.nx e S).th F = F e S := Eq.trans rfl (Eq.refl _)
@[simp] theorem th_rt (F : CS) : (RS.rt x S).th F = .rt x S := rfl
@[simp] theorem th_bk (F : CS) : (RS.bk e S).th F = .bk e S := rfl
@[simp] theorem th_ct (F : CS) : (RS.ct e S).th F = .ct e S := rfl
@[simp] theorem th_exc (x : Exn) (F : CS) : (RS.exc x e S).th F = .exc x e S := rfl
@[simp] theorem th_bad (F : CS) : RS.bad.th F = .bad := rfl
@[simp] theorem fin_nx : (RS.nx e S).fin = .ok .non S := rfl
@[simp] theorem fin_rt : (RS.rt x S).fin = .ok x S := rfl
@[simp] theorem fin_exc (x : Exn) : (RS.exc x e S).fin = .exc x S := rfl
@[simp] theorem fin_bad : RS.bad.fin = .bad := rfl
@[simp] theorem bnd_ap (m : M α) (F : α → M β) : bnd m F S = (m S).rb F := by unfold bnd R.rb; cases m S <;> rfl
@[simp] theorem pur_ap (v : α) : pur v S = .ok v S := rfl
@[simp] theorem bad_ap : (bad : M α) S = .bad := rfl
def look (o : Option (Option A)) (S : Store) : R A := match o with
  | some (some a) => .ok a S
  | _ => .bad
@[simp] theorem look_some (a : A) : look (some (some a)) S = .ok a S := rfl
@[simp] theorem cVar_ap (i : Nat) : cVar i e S = look e[i]? S := by
  unfold cVar look
  cases e[i]? with
  | none => rfl
  | some o => cases o <;> rfl
@[simp] theorem cC_ap (v : A) : cC v e S = .ok v S := rfl
@[simp] theorem c1_ap (F : A → M A) : c1 F a e S = (a e S).rb F := bnd_ap _ _
@[simp] theorem c2_ap : c2 f a b e S = (a e S).rb fun x => bnd (b e) fun y => f x y := bnd_ap _ _
@[simp] theorem cNil_ap : cNil e S = .ok [] S := rfl
@[simp] theorem cCons_ap (cl : CL) : cCons a cl e S = (a e S).rb fun x => bnd (cl e) fun ys S => .ok (x :: ys) S := bnd_ap _ _
@[simp] theorem cApp_ap (F : List A → M A) (cl : CL) : cApp F cl e S = (cl e S).rb F := bnd_ap _ _
@[simp] theorem asB_ap : asB (.bl k) S = .ok k S := rfl
@[simp] theorem tVal_ap : tVal a e S = (a e S).rb asB := bnd_ap _ _
@[simp] theorem tAnd_ap (s t : CB) : VM.tAnd s t e S = (s e S).rb fun x => if x then t e else pur false := bnd_ap _ _
@[simp] theorem tOr_ap (s t : CB) : VM.tOr s t e S = (s e S).rb fun x => if x then pur true else t e := bnd_ap _ _
@[simp] theorem tNot_ap (s : CB) : VM.tNot s e S = (s e S).rb fun x => pur (!x) := bnd_ap _ _
@[simp] theorem cAnd_ap : cAnd a b e S = (a e S).rb fun x => bnd (asB x) fun x => if x then b e else pur (.bl false) := bnd_ap _ _
@[simp] theorem cOr_ap : cOr a b e S = (a e S).rb fun x => bnd (asB x) fun x => if x then pur (.bl true) else b e := bnd_ap _ _
@[simp] theorem cNot_ap : cNot a e S = (a e S).rb fun x => bnd (asB x) fun x => pur (.bl (!x)) := bnd_ap _ _
@[simp] theorem cIf_ap (t : CB) : cIf t a b e S = (t e S).rb fun x => if x then a e else b e := bnd_ap _ _
@[simp] theorem cChain_ap (c : C) : cChain f g a b c e S = (a e S).rb fun x => bnd (b e) fun y => bnd (f x y) fun z => bnd (asB z) fun z => if z then bnd (c e) fun u => g y u else pur (.bl false) := bnd_ap _ _
@[simp] theorem sNil_ap : sNil e S = .nx e S := rfl
@[simp] theorem sSeq_ap (s t : CS) : sSeq s t e S = (s e S).th t := by unfold sSeq RS.th; cases s e S <;> rfl
@[simp] theorem sSet_ap (i : Nat) : sSet i a e S = (a e S).rs e fun v S' => .nx (e.set i (some v)) S' := by unfold sSet R.rs; cases a e S <;> rfl
@[simp] theorem sRet_ap : sRet a e S = (a e S).rs e fun v S' => .rt v S' := by unfold sRet R.rs; cases a e S <;> rfl
@[simp] theorem sRetN_ap : sRetN e S = .rt .non S := rfl
@[simp] theorem sExp_ap : sExp a e S = (a e S).rs e fun v S' => .nx e S' := by unfold sExp R.rs; cases a e S <;> rfl
@[simp] theorem sIf_ap (t : CB) (s u : CS) : sIf t s u e S = (t e S).rs e fun k S' => if k then s e S' else u e S' := by
  unfold sIf R.rs
  cases t e S with
  | ok k S' => cases k <;> rfl
  | _ => rfl
@[simp] theorem sBrk_ap : sBrk e S = .bk e S := rfl
@[simp] theorem sCnt_ap : sCnt e S = .ct e S := rfl
@[simp] theorem sAsg_ap (g : CG) : sAsg a g e S = (a e S).rs e fun v S' => g v e S' := by unfold sAsg R.rs; cases a e S <;> rfl
@[simp] theorem gN_ap (i : Nat) : gN i x e S = .nx (e.set i (some x)) S := rfl
@[simp] theorem gT_ap (gs : List CG) (xs : List A) : gT gs (.tup xs) = gsq gs xs := rfl
@[simp] theorem gsq_nil : gsq [] [] e S = .nx e S := rfl
@[simp] theorem gsq_cons (g : CG) (gs : List CG) (x : A) (xs : List A) : gsq (g :: gs) (x :: xs) e S = (g x e S).th (gsq gs xs) := by
  show (match g x e S with | .nx e' S' => gsq gs xs e' S' | r => r) = _
  cases g x e S <;> rfl
@[simp] theorem gSub_ap (o i : C) (st : A → A → A → M A) : gSub o i st x e S = (bnd (o e) (fun u => bnd (i e) fun y => st u y x) S).rs e fun _ S' => .nx e S' := by
  unfold gSub R.rs; cases bnd (o e) (fun u => bnd (i e) fun y => st u y x) S <;> rfl
@[simp] theorem sPar2_ap (i j : Nat) (cl : CL) : sPar2 i j cl e S = (cl e S).rs e fun vs S' => match vs with
    | [v, u] => .nx ((e.set i (some v)).set j (some u)) S'
    | _ => .bad := by
  unfold sPar2 R.rs
  cases cl e S with
  | ok vs S' => rcases vs with _ | ⟨_, _ | ⟨_, _ | ⟨_, _⟩⟩⟩ <;> rfl
  | _ => rfl
@[simp] theorem sFor_ap (it : CL) (g : CG) (body : CS) (ks : List Nat) : sFor it g body ks e S = (it e S).rs e fun xs S' => loopL g body ks xs e S' := by unfold sFor R.rs; cases it e S <;> rfl
@[simp] theorem kill_nil : kill [] e = e := rfl
@[simp] theorem kill_cons (k : Nat) (ks : List Nat) : kill (k :: ks) e = kill ks (e.set k none) := rfl
@[simp] theorem loopL_nil (g : CG) (body : CS) (ks : List Nat) : loopL g body ks [] e S = .nx (kill ks e) S := rfl
@[simp] theorem loopL_cons (g : CG) (body : CS) (ks : List Nat) (xs : List A) : loopL g body ks (x :: xs) e S = (match g x (kill ks e) S with
    | .nx e1 S1 => turnL (loopL g body ks xs) ks (body e1 S1)
    | r => r) := rfl
@[simp] theorem turnL_nx (nxt : CS) (ks : List Nat) : turnL nxt ks (.nx e S) = nxt e S := Eq.trans rfl (Eq.refl _)
@[simp] theorem turnL_ct (nxt : CS) (ks : List Nat) : turnL nxt ks (.ct e S) = nxt e S := Eq.trans rfl (Eq.refl _)
@[simp] theorem turnL_bk (nxt : CS) (ks : List Nat) : turnL nxt ks (.bk e S) = .nx (kill ks e) S := rfl
@[simp] theorem turnL_rt (nxt : CS) (ks : List Nat) : turnL nxt ks (.rt x S) = .rt x S := rfl
@[simp] theorem turnL_exc (nxt : CS) (ks : List Nat) (x : Exn) : turnL nxt ks (.exc x e S) = .exc x e S := rfl
@[simp] theorem turnL_bad (nxt : CS) (ks : List Nat) : turnL nxt ks .bad = .bad := rfl
@[simp] theorem cItF_ap : cItF a e S = (a e S).rb itemsF := bnd_ap _ _
@[simp] theorem cItS_ap : cItS a e S = (a e S).rb itemsStr := bnd_ap _ _
@[simp] theorem cItR1_ap : cItR1 a e S = (a e S).rb itemsR1 := bnd_ap _ _
@[simp] theorem cItR2_ap : cItR2 a b e S = (a e S).rb fun x => bnd (b e) fun y => itemsR2 x y := bnd_ap _ _
@[simp] theorem itemsF_lst (xs : List A) : itemsF (.lst xs) S = .ok xs S := rfl
@[simp] theorem itemsF_tup (xs : List A) : itemsF (.tup xs) S = .ok xs S := rfl
@[simp] theorem runBody_ap (n : Nat) (c : CS) (as : List A) : runBody n c as S = (c (as.map some ++ List.replicate (n - as.length) none) S).fin := by unfold runBody RS.fin; split <;> simp_all
/-- the end of a pure def -/
def R.pu (r : R A) (S : Store) : R A := match r with
  | .ok a S' => (match fz 4 S' a with
    | some b => .ok b S
    | none => .bad)
  | .exc x _ => if closedF x.fs then .exc x S else .bad
  | .bad => .bad
theorem pureF_ap (F : List A → M A) (as : List A) (h : closedL as = true) : pureF F as S = (F as []).pu S := by
  unfold pureF R.pu
  rw [if_pos h] <;> cases F as [] <;> rfl
theorem fz_closed (n : Nat) (h : closed x = true) : fz n S x = some x := by cases n <;> (unfold fz; rw [if_pos h])
theorem pu_ok (h : closed x = true) : (R.ok x S').pu S = .ok x S := by
  show (match fz 4 S' x with | some b => R.ok b S | none => .bad) = _
  rw [fz_closed 4 h]
@[simp] theorem pu_bad : R.bad.pu S = .bad := rfl
@[simp] theorem pu_non : (R.ok .non S').pu S = .ok .non S := rfl
@[simp] theorem pu_bl (b : Bool) : (R.ok (.bl b) S').pu S = .ok (.bl b) S := rfl
@[simp] theorem pu_int (b : Int) : (R.ok (.int b) S').pu S = .ok (.int b) S := rfl
@[simp] theorem pu_str (b : Str) : (R.ok (.str b) S').pu S = .ok (.str b) S := rfl
/-! values -/
@[simp] theorem closedL_nil : closedL [] = true := Eq.trans rfl (Eq.refl _)
@[simp] theorem closedL_cons (xs : List A) : closedL (x :: xs) = (closed x && closedL xs) := Eq.trans rfl (Eq.refl _)
@[simp] theorem closed_tup (xs : List A) : closed (.tup xs) = closedL xs := Eq.trans rfl (Eq.refl _)
@[simp] theorem closed_lst (xs : List A) : closed (.lst xs) = closedL xs := Eq.trans rfl (Eq.refl _)
@[simp] theorem closed_dic (xs : List (Key × A)) : closed (.dic xs) = closedK xs := Eq.trans rfl (Eq.refl _)
@[simp] theorem closed_str (s : Str) : closed (.str s) = true := Eq.trans rfl (Eq.refl _)
@[simp] theorem closed_int (s : Int) : closed (.int s) = true := Eq.trans rfl (Eq.refl _)
@[simp] theorem closed_bl (s : Bool) : closed (.bl s) = true := Eq.trans rfl (Eq.refl _)
@[simp] theorem closed_non : closed .non = true := Eq.trans rfl (Eq.refl _)
@[simp] theorem cTup_ap (cl : CL) : cTup cl e S = (cl e S).rb fun xs S => if xs.length ≤ LINE then .ok (.tup xs) S else .bad := bnd_ap _ _
@[simp] theorem cLst_ap (cl : CL) : cLst cl e S = (cl e S).rb fun xs S => if xs.length ≤ LINE then .ok (.lst xs) S else .bad := bnd_ap _ _
@[simp] theorem cLstN_ap (cl : CL) : cLstN cl e S = (cl e S).rb fun xs S => if xs.length ≤ LINE then .ok (.ref S.length) (S ++ [.lst xs]) else .bad := bnd_ap _ _
@[simp] theorem cDicN0_ap : cDicN0 e S = .ok (.ref S.length) (S ++ [.dic []]) := rfl
@[simp] theorem pNo_ap : pNo e S = .ok none S := rfl
@[simp] theorem pSome_ap : pSome a e S = (a e S).rb fun a S => match a with
  | .int i => .ok (some i) S
  | _ => .bad := bnd_ap _ _
@[simp] theorem cSl_ap (lo hi : CO) : cSl a lo hi e S = (a e S).rb fun x => bnd (lo e) fun l => bnd (hi e) fun h => opSl x l h := bnd_ap _ _
@[simp] theorem op1_ap (F : A → M A) : op1 F [x] S = F x S := rfl
@[simp] theorem op2_ap (F : A → A → M A) : op2 F [x, y] S = F x y S := rfl
theorem ifT {α : Type} {p : Prop} [Decidable p] {u v : α} (h : p) : (if p then u else v) = u := if_pos h
@[simp] theorem opLen_tup (xs : List A) : opLen [.tup xs] S = .ok (.int xs.length) S := rfl
@[simp] theorem opLen_lst (xs : List A) : opLen [.lst xs] S = .ok (.int xs.length) S := rfl
@[simp] theorem opLen_dic (xs : List (Key × A)) : opLen [.dic xs] S = .ok (.int xs.length) S := rfl
theorem opLen_ref {n : Nat} {xs : List A} (h : S[n]? = some (.lst xs)) : opLen [.ref n] S = .ok (.int xs.length) S := by
  show (match lenA S (.ref n) with | some n => R.ok (A.int n) S | none => .bad) = _
  have : lenA S (.ref n) = some xs.length := by
    show (match dicAt S (.ref n) with | some kvs => some kvs.length | none => (match lstAt S (.ref n) with | some xs => some xs.length | none => none)) = _
    have h1 : dicAt S (.ref n) = none := by show (match S[n]? with | some (.dic xs) => some xs | _ => none) = none; rw [h]
    have h2 : lstAt S (.ref n) = some xs := by show (match S[n]? with | some (.lst xs) => some xs | _ => none) = _; rw [h]
    rw [h1, h2]
  rw [this]
@[simp] theorem opTup_tup (xs : List A) : opTup [.tup xs] S = .ok (.tup xs) S := rfl
@[simp] theorem opTup_lst (xs : List A) : opTup [.lst xs] S = .ok (.tup xs) S := rfl
@[simp] theorem opList_tup (xs : List A) : opList [.tup xs] S = .ok (.lst xs) S := rfl
@[simp] theorem opList_lst (xs : List A) : opList [.lst xs] S = .ok (.lst xs) S := rfl
@[simp] theorem opSub_ap (i j : Int) : opSub (.int i) (.int j) S = .ok (.int (i - j)) S := rfl
@[simp] theorem opAdd_int (i j : Int) : opAdd (.int i) (.int j) S = .ok (.int (i + j)) S := rfl
theorem opAdd_tup (xs ys : List A) (h : xs.length + ys.length ≤ LINE) : opAdd (.tup xs) (.tup ys) S = .ok (.tup (xs ++ ys)) S := if_pos h
theorem opAdd_lst (xs ys : List A) (h : xs.length + ys.length ≤ LINE) : opAdd (.lst xs) (.lst ys) S = .ok (.lst (xs ++ ys)) S := if_pos h
theorem opMul_ap (i j : Int) (h : cMul i j = true) : opMul (.int i) (.int j) S = .ok (.int (i * j)) S := by show (if cMul i j = true then _ else _) = _; rw [if_pos h]
theorem opDiv_ap (i j : Int) (h : cDivN i j = true) : opDiv (.int i) (.int j) S = .ok (.int (i.fdiv j)) S := by show (if cDivN i j = true then _ else _) = _; rw [if_pos h]
theorem opMod_ap (i j : Int) (h : j ≠ 0) : opMod (.int i) (.int j) S = .ok (.int (i.fmod j)) S := by show (if decide (j ≠ 0) = true then _ else _) = _; rw [if_pos (decide_eq_true h)]
@[simp] theorem opLt_int (i j : Int) : opLt (.int i) (.int j) S = .ok (.bl (decide (i < j))) S := rfl
@[simp] theorem opLe_int (i j : Int) : opLe (.int i) (.int j) S = .ok (.bl (decide (i ≤ j))) S := rfl
@[simp] theorem opGt_int (i j : Int) : opGt (.int i) (.int j) S = .ok (.bl (decide (j < i))) S := rfl
@[simp] theorem opGe_int (i j : Int) : opGe (.int i) (.int j) S = .ok (.bl (decide (j ≤ i))) S := rfl
@[simp] theorem opNeg_int (i : Int) : opNeg (.int i) S = .ok (.int (-i)) S := rfl
@[simp] theorem opIsN_ap : opIsN x .non S = .ok (.bl (isNon x)) S := rfl
@[simp] theorem opNotN_ap : opNotN x .non S = .ok (.bl (!isNon x)) S := rfl
@[simp] theorem isNon_non : isNon .non = true := rfl
@[simp] theorem isNon_tup (xs : List A) : isNon (.tup xs) = false := rfl
@[simp] theorem isNon_lst (xs : List A) : isNon (.lst xs) = false := rfl
@[simp] theorem isNon_dic (xs : List (Key × A)) : isNon (.dic xs) = false := rfl
@[simp] theorem isNon_int (i : Int) : isNon (.int i) = false := rfl
@[simp] theorem isNon_str (i : Str) : isNon (.str i) = false := rfl
@[simp] theorem opEq_int (i j : Int) : opEq (.int i) (.int j) S = .ok (.bl (decide (i = j))) S := rfl
@[simp] theorem opNe_int (i j : Int) : opNe (.int i) (.int j) S = .ok (.bl (!decide (i = j))) S := rfl
@[simp] theorem opEq_str (i j : Str) : opEq (.str i) (.str j) S = .ok (.bl (decide (i = j))) S := rfl
@[simp] theorem opNe_str (i j : Str) : opNe (.str i) (.str j) S = .ok (.bl (!decide (i = j))) S := rfl
theorem opEq_of {b : Bool} (h : eqA x y = some b) : opEq x y S = .ok (.bl b) S := by unfold opEq; rw [h]
theorem opNe_of {b : Bool} (h : eqA x y = some b) : opNe x y S = .ok (.bl (!b)) S := by unfold opNe; rw [h]
@[simp] theorem opSl_tup (xs : List A) (lo hi : Option Int) : opSl (.tup xs) lo hi S = .ok (.tup (cutA xs lo hi)) S := rfl
@[simp] theorem opSl_lst (xs : List A) (lo hi : Option Int) : opSl (.lst xs) lo hi S = .ok (.lst (cutA xs lo hi)) S := rfl
theorem atI_nat {α : Type} (xs : List α) (k : Nat) : L2.atI xs (k : Int) = xs[k]? := by
  unfold L2.atI L2.ixN
  rw [if_pos (by omega)]
  by_cases h : (k : Int) < xs.length
  · rw [if_pos h]; simp
  · rw [if_neg h]
    rw [List.getElem?_eq_none (by omega)]; rfl
theorem opIx_tup {xs : List A} {i : Int} (h : L2.atI xs i = some x) : opIx (.tup xs) (.int i) S = .ok x S := by
  show (match L2.atI xs i with | some x => R.ok x S | none => .bad) = _
  rw [h]
theorem opIx_lst {xs : List A} {i : Int} (h : L2.atI xs i = some x) : opIx (.lst xs) (.int i) S = .ok x S := by
  show (match L2.atI xs i with | some x => R.ok x S | none => .bad) = _
  rw [h]
theorem opIx_dic {xs : List (Key × A)} {b : A} {q : Key} (h : keyOf b = some q) (h2 : getK xs q = some x) : opIx (.dic xs) b S = .ok x S := by
  have e : opIx (.dic xs) b S = ixRest S (.dic xs) b := by unfold opIx; cases b <;> rfl
  rw [e]
  show (match keyOf b with | some k => (match getK xs k with | some x => R.ok x S | none => .bad) | none => .bad) = _
  rw [h]; simp only; rw [h2]
@[simp] theorem opIx_t0 (xs : List A) : opIx (.tup (x :: xs)) (.int 0) S = .ok x S := opIx_tup (by rw [show (0 : Int) = ((0 : Nat) : Int) from rfl, atI_nat]; rfl)
@[simp] theorem opIx_t1 (z : A) (xs : List A) : opIx (.tup (z :: x :: xs)) (.int 1) S = .ok x S := opIx_tup (by rw [show (1 : Int) = ((1 : Nat) : Int) from rfl, atI_nat]; rfl)
@[simp] theorem opIx_t2 (z y : A) (xs : List A) : opIx (.tup (z :: y :: x :: xs)) (.int 2) S = .ok x S := opIx_tup (by rw [show (2 : Int) = ((2 : Nat) : Int) from rfl, atI_nat]; rfl)
@[simp] theorem opIx_t3 (z y u : A) (xs : List A) : opIx (.tup (z :: y :: u :: x :: xs)) (.int 3) S = .ok x S := opIx_tup (by rw [show (3 : Int) = ((3 : Nat) : Int) from rfl, atI_nat]; rfl)
@[simp] theorem opIx_t4 (z y u t : A) (xs : List A) : opIx (.tup (z :: y :: u :: t :: x :: xs)) (.int 4) S = .ok x S := opIx_tup (by rw [show (4 : Int) = ((4 : Nat) : Int) from rfl, atI_nat]; rfl)
@[simp] theorem opIx_l0 (xs : List A) : opIx (.lst (x :: xs)) (.int 0) S = .ok x S := opIx_lst (by rw [show (0 : Int) = ((0 : Nat) : Int) from rfl, atI_nat]; rfl)
@[simp] theorem opIx_l1 (z : A) (xs : List A) : opIx (.lst (z :: x :: xs)) (.int 1) S = .ok x S := opIx_lst (by rw [show (1 : Int) = ((1 : Nat) : Int) from rfl, atI_nat]; rfl)
@[simp] theorem opIx_l2 (z y : A) (xs : List A) : opIx (.lst (z :: y :: x :: xs)) (.int 2) S = .ok x S := opIx_lst (by rw [show (2 : Int) = ((2 : Nat) : Int) from rfl, atI_nat]; rfl)
@[simp] theorem opIn_tup (xs : List A) (h : flatA x = true) (h2 : xs.all flatA = true) : opIn x (.tup xs) S = .ok (.bl (inFlat x xs)) S := by
  have e : inAny S x (.tup xs) = some (inFlat x xs) := by
    show (if flatA x && xs.all flatA then some (inFlat x xs) else none) = _
    rw [h, h2]; rfl
  unfold opIn; rw [e]
@[simp] theorem opIn_lst (xs : List A) (h : flatA x = true) (h2 : xs.all flatA = true) : opIn x (.lst xs) S = .ok (.bl (inFlat x xs)) S := by
  have e : inAny S x (.lst xs) = some (inFlat x xs) := by
    show (if flatA x && xs.all flatA then some (inFlat x xs) else none) = _
    rw [h, h2]; rfl
  unfold opIn; rw [e]
end
@[simp] theorem LINE_eq : LINE = 16777216 := rfl
@[simp] theorem allFlat_nil : ([] : List A).all flatA = true := Eq.trans rfl (Eq.refl _)
@[simp] theorem allFlat_cons (x : A) (xs : List A) : (x :: xs).all flatA = (flatA x && xs.all flatA) := Eq.trans rfl (Eq.refl _)
@[simp] theorem flatA_str (z : Str) : flatA (.str z) = true := Eq.trans rfl (Eq.refl _)
@[simp] theorem flatA_int (z : Int) : flatA (.int z) = true := Eq.trans rfl (Eq.refl _)
@[simp] theorem flatA_bl (z : Bool) : flatA (.bl z) = true := Eq.trans rfl (Eq.refl _)
@[simp] theorem flatA_non : flatA .non = true := Eq.trans rfl (Eq.refl _)
@[simp] theorem inFlat_nil (x : A) : inFlat x [] = false := rfl
@[simp] theorem inFlat_ss (z y : Str) (ys : List A) : inFlat (.str z) (.str y :: ys) = (decide (z = y) || inFlat (.str z) ys) := by
  show ((y == z) || inFlat (.str z) ys) = _
  by_cases h : z = y
  · subst h; simp
  · have : (y == z) = false := beq_eq_false_iff_ne.mpr fun e => h e.symm
    rw [this, decide_eq_false h]
@[simp] theorem getK_nil (k : Key) : getK [] k = none := rfl
@[simp] theorem getK_cons (j k : Key) (a : A) (r : List (Key × A)) : getK ((j, a) :: r) k = if j = k then some a else getK r k := by
  unfold getK
  by_cases h : j = k
  · simp [h]
  · simp [h]
def optR (o : Option A) (S : Store) : R A := match o with
  | some x => .ok x S
  | none => .bad
@[simp] theorem optR_some (x : A) (S : Store) : optR (some x) S = .ok x S := rfl
@[simp] theorem optR_none (S : Store) : optR none S = .bad := rfl
@[simp] theorem opIx_ds (kvs : List (Key × A)) (z : Str) (S : Store) : opIx (.dic kvs) (.str z) S = optR (getK kvs (.inr z)) S := rfl
@[simp] theorem opIx_di (kvs : List (Key × A)) (z : Int) (S : Store) : opIx (.dic kvs) (.int z) S = optR (getK kvs (.inl z)) S := rfl
@[simp] theorem opIn_ds (kvs : List (Key × A)) (z : Str) (S : Store) : opIn (.str z) (.dic kvs) S = .ok (.bl (getK kvs (.inr z)).isSome) S := rfl
@[simp] theorem opIn_di (kvs : List (Key × A)) (z : Int) (S : Store) : opIn (.int z) (.dic kvs) S = .ok (.bl (getK kvs (.inl z)).isSome) S := rfl
@[simp] theorem opNotIn_di (kvs : List (Key × A)) (z : Int) (S : Store) : opNotIn (.int z) (.dic kvs) S = .ok (.bl (!(getK kvs (.inl z)).isSome)) S := rfl
@[simp] theorem tabFind_cons (y z : Str) (o : Option A) (r : List (Str × Option A)) : tabFind ((y, o) :: r) z = if y = z then some o else tabFind r z := by
  unfold tabFind
  by_cases h : y = z
  · simp [h]
  · simp [h]
def optB (o : Option (Option A)) (S : Store) : R A := match o with
  | some o => .ok (.bl o.isSome) S
  | none => .bad
@[simp] theorem optB_some (o : Option A) (S : Store) : optB (some o) S = .ok (.bl o.isSome) S := rfl
def optI (o : Option (Option A)) (S : Store) : R A := match o with
  | some (some b) => .ok b S
  | _ => .bad
@[simp] theorem optI_some (o : A) (S : Store) : optI (some (some o)) S = .ok o S := rfl
@[simp] theorem opTabIn_ap (kvs : List (Str × Option A)) (z : Str) (S : Store) : opTabIn kvs (.str z) S = optB (tabFind kvs z) S := by
  show (match tabFind kvs z with | some o => R.ok (A.bl o.isSome) S | none => .bad) = _
  cases tabFind kvs z <;> rfl
@[simp] theorem opTabIx_ap (kvs : List (Str × Option A)) (z : Str) (S : Store) : opTabIx kvs (.str z) S = optI (tabFind kvs z) S := by
  show (match tabFind kvs z with | some (some b) => R.ok b S | _ => .bad) = _
  cases tabFind kvs z with
  | none => rfl
  | some o => cases o <;> rfl
/-! comprehensions -/
@[simp] theorem cLc_ap (it : CL) (vs : List Nat) (g : CG) (t : CB) (el : C) (e : Slots) (S : Store) : cLc it vs g t el e S = (it e S).rb fun xs S => finL (lcL g t el (kill vs e) xs [] S) := bnd_ap _ _
@[simp] theorem finL_ok (xs : List A) (S : Store) : finL (.ok xs S) = .ok (.lst xs) S := rfl
theorem lcL_pure {α : Type} {g : CG} {t : CB} {el : C} {e0 : Slots} {S : Store} (enc : α → A) (p : α → Bool) (f : α → A) : ∀ (xs : List α) (acc : List A), (∀ x ∈ xs, turnC g t el e0 (enc x) S = .ok (if p x then some (f x) else none) S) → acc.length + xs.length ≤ 16777216 →
    lcL g t el e0 (xs.map enc) acc S = .ok (acc ++ (xs.filter p).map f) S
  | [], acc, _, _ => by simp [lcL]
  | x :: xs, acc, h, hl => by
    have h1 := h x List.mem_cons_self
    simp only [List.length_cons] at hl
    have ha : acc.length < 16777216 := by omega
    rw [List.map_cons]
    unfold lcL
    rw [h1]
    cases hp : p x with
    | true =>
      simp only [if_true]
      rw [if_pos ha, lcL_pure enc p f xs (acc ++ [f x]) (fun y hy => h y (List.mem_cons_of_mem _ hy)) (by simp; omega)]
      simp [hp]
    | false =>
      simp only [Bool.false_eq_true, if_false]
      rw [lcL_pure enc p f xs acc (fun y hy => h y (List.mem_cons_of_mem _ hy)) (by omega)]
      simp [hp]
def R.tc (r : RS) (t : CB) (el : C) : R (Option A) := match r with
  | .nx e1 S1 => (match t e1 S1 with
    | .ok true S2 => (match el e1 S2 with
      | .ok y S3 => .ok (some y) S3
      | _ => .bad)
    | .ok false S2 => .ok none S2
    | _ => .bad)
  | _ => .bad
/-! dicts -/
def getR (x y : A) (S : Store) : R A := match dicAt S x, keyOf y with
  | some kvs, some j => .ok ((getK kvs j).getD .non) S
  | _, _ => .bad
def isD (x : A) (S : Store) : R A := match dicAt S x with
  | some _ => .ok x S
  | none => .bad
@[simp] theorem cGet1_ap (d k : C) (e : Slots) (S : Store) : cGet1 d k e S = (d e S).rb fun x S => (isD x S).rb fun _ S => (k e S).rb fun y S => getR x y S := by
  unfold cGet1
  rw [bnd_ap]
  congr 1
  funext x S
  unfold isD
  cases dicAt S x with
  | none => rfl
  | some kvs =>
    simp only [rb_ok]
    rw [bnd_ap]
    rfl
@[simp] theorem isD_dic (kvs : List (Key × A)) (S : Store) : isD (.dic kvs) S = .ok (.dic kvs) S := rfl
@[simp] theorem getR_dic (kvs : List (Key × A)) (i : Int) (S : Store) : getR (.dic kvs) (.int i) S = .ok ((getK kvs (.inl i)).getD .non) S := rfl
def dLoop (f : A → Option (List A)) (g : CG) (body : CS) (ks : List Nat) (e : Slots) (S : Store) : Option (Option A) → RS
  | some (some a) => (match f a with
    | some xs => noX (loopL g body ks xs e S)
    | none => .bad)
  | _ => .bad
@[simp] theorem sForD_ap (f : A → Option (List A)) (i : Nat) (g : CG) (body : CS) (ks : List Nat) (e : Slots) (S : Store) : sForD f i g body ks e S = dLoop f g body ks e S e[i]? := by
  unfold sForD dLoop
  cases e[i]? with
  | none => rfl
  | some o => cases o <;> rfl
@[simp] theorem dLoop_K (kvs : List (Key × A)) (g : CG) (body : CS) (ks : List Nat) (e : Slots) (S : Store) : dLoop itemsK g body ks e S (some (some (.dic kvs))) = noX (loopL g body ks (kvs.map fun q => kA q.1) e S) := rfl
@[simp] theorem dLoop_P (kvs : List (Key × A)) (g : CG) (body : CS) (ks : List Nat) (e : Slots) (S : Store) : dLoop itemsP g body ks e S (some (some (.dic kvs))) = noX (loopL g body ks (kvs.map fun q => .tup [kA q.1, q.2]) e S) := rfl
@[simp] theorem noX_nx (e : Slots) (S : Store) : noX (.nx e S) = .nx e S := rfl
@[simp] theorem noX_rt (a : A) (S : Store) : noX (.rt a S) = .rt a S := rfl
/-! handles -/
section
variable {o0 o1 : O} {S : Store} {x : A}
@[simp] theorem cMt_ap (T : String) (f : A → List A → M A) (o : C) (as : CL) (e : Slots) (S : Store) : cMt T f o as e S = (o e S).rb fun x => bnd (isTy T x) fun _ => bnd (as e) fun ys => f x ys := bnd_ap _ _
@[simp] theorem isTy_l (xs : List A) (S : Store) : isTy "list" (.lst xs) S = .ok () S := rfl
@[simp] theorem isTy_r0 (xs : List A) : isTy "list" (.ref 0) (O.lst xs :: S) = .ok () (O.lst xs :: S) := rfl
@[simp] theorem isTy_r1 (xs : List A) : isTy "list" (.ref 1) (o0 :: O.lst xs :: S) = .ok () (o0 :: O.lst xs :: S) := rfl
@[simp] theorem isTy_r2 (xs : List A) : isTy "list" (.ref 2) (o0 :: o1 :: O.lst xs :: S) = .ok () (o0 :: o1 :: O.lst xs :: S) := rfl
@[simp] theorem opApp_r0 (xs : List A) (h : xs.length < LINE) : opApp (.ref 0) [x] (O.lst xs :: S) = .ok .non (O.lst (xs ++ [x]) :: S) := if_pos h
@[simp] theorem opApp_r1 (xs : List A) (h : xs.length < LINE) : opApp (.ref 1) [x] (o0 :: O.lst xs :: S) = .ok .non (o0 :: O.lst (xs ++ [x]) :: S) := if_pos h
@[simp] theorem opApp_r2 (xs : List A) (h : xs.length < LINE) : opApp (.ref 2) [x] (o0 :: o1 :: O.lst xs :: S) = .ok .non (o0 :: o1 :: O.lst (xs ++ [x]) :: S) := if_pos h
@[simp] theorem opLen_r0 (xs : List A) : opLen [.ref 0] (O.lst xs :: S) = .ok (.int xs.length) (O.lst xs :: S) := rfl
@[simp] theorem opLen_r1 (xs : List A) : opLen [.ref 1] (o0 :: O.lst xs :: S) = .ok (.int xs.length) (o0 :: O.lst xs :: S) := rfl
@[simp] theorem opLen_r2 (xs : List A) : opLen [.ref 2] (o0 :: o1 :: O.lst xs :: S) = .ok (.int xs.length) (o0 :: o1 :: O.lst xs :: S) := rfl
@[simp] theorem opIn_r0 (d : List (Key × A)) (i : Int) : opIn (.int i) (.ref 0) (O.dic d :: S) = .ok (.bl (getK d (.inl i)).isSome) (O.dic d :: S) := rfl
@[simp] theorem opNotIn_r0 (d : List (Key × A)) (i : Int) : opNotIn (.int i) (.ref 0) (O.dic d :: S) = .ok (.bl (!(getK d (.inl i)).isSome)) (O.dic d :: S) := rfl
@[simp] theorem opIx_r0d (d : List (Key × A)) (i : Int) : opIx (.ref 0) (.int i) (O.dic d :: S) = optR (getK d (.inl i)) (O.dic d :: S) := rfl
@[simp] theorem opIx_r1d (d : List (Key × A)) (i : Int) : opIx (.ref 1) (.int i) (o0 :: O.dic d :: S) = optR (getK d (.inl i)) (o0 :: O.dic d :: S) := rfl
@[simp] theorem opIx_r0l (xs : List A) (i : Int) : opIx (.ref 0) (.int i) (O.lst xs :: S) = optR (L2.atI xs i) (O.lst xs :: S) := rfl
@[simp] theorem opIx_r1l (xs : List A) (i : Int) : opIx (.ref 1) (.int i) (o0 :: O.lst xs :: S) = optR (L2.atI xs i) (o0 :: O.lst xs :: S) := rfl
@[simp] theorem opIx_r2l (xs : List A) (i : Int) : opIx (.ref 2) (.int i) (o0 :: o1 :: O.lst xs :: S) = optR (L2.atI xs i) (o0 :: o1 :: O.lst xs :: S) := rfl
@[simp] theorem opSet_r0 (d : List (Key × A)) (i : Int) (v : A) (h : d.length < LINE) : opSet (.ref 0) (.int i) v (O.dic d :: S) = .ok .non (O.dic (putA d (.inl i) v) :: S) := if_pos h
@[simp] theorem opSet_r1 (d : List (Key × A)) (i : Int) (v : A) (h : d.length < LINE) : opSet (.ref 1) (.int i) v (o0 :: O.dic d :: S) = .ok .non (o0 :: O.dic (putA d (.inl i) v) :: S) := if_pos h
theorem putA_new (d : List (Key × A)) (k : Key) (v : A) (h : getK d k = none) : putA d k v = d ++ [(k, v)] := by
  unfold putA
  rw [if_neg]
  intro z
  obtain ⟨q, hq, e⟩ := List.any_eq_true.mp z
  unfold getK at h
  have h2 : (d.find? fun kv => decide (kv.1 = k)) = none := by
    cases e2 : d.find? fun kv => decide (kv.1 = k) with
    | none => rfl
    | some y => rw [e2] at h; cases h
  exact absurd e (List.find?_eq_none.mp h2 q hq)
end
/-! texts -/
theorem ofS_inj {a b : String} (h : Str.ofString a = Str.ofString b) : a = b := by
  rw [Str.ofString_eq_toList, Str.ofString_eq_toList] at h
  have h1 : (a.toList.map Char.toNat) = (b.toList.map Char.toNat) := by
    have := congrArg (fun s : Str => s.cps.toList) h
    simpa using this
  have h2 : a.toList = b.toList := (List.map_inj_right (f := Char.toNat) fun x y e => Char.ext (UInt32.toNat.inj e)).mp h1
  exact String.toList_inj.mp h2
@[simp] theorem ofS_eq (a b : String) : (Str.ofString a = Str.ofString b) = (a = b) := propext ⟨ofS_inj, fun h => by rw [h]⟩
@[simp] theorem ofS_beq (a b : String) : (Str.ofString a == Str.ofString b) = (a == b) := by
  by_cases h : a = b
  · subst h; simp
  · rw [beq_eq_false_iff_ne.mpr fun e => h (ofS_inj e), beq_eq_false_iff_ne.mpr h]
/-- a text among texts -/
theorem inFlat_str (z : Str) (ys : List Str) : inFlat (.str z) (ys.map .str) = decide (z ∈ ys) := by
  unfold inFlat L2.inV
  induction ys with
  | nil => simp
  | cons y ys ih =>
    simp only [List.map_cons, List.any_cons, vOf] at ih ⊢
    rw [ih]
    show ((y == z) || decide (z ∈ ys)) = _
    by_cases h : z = y
    · subst h; simp
    · have : (y == z) = false := by simpa using fun e => h e.symm
      rw [this]; simp [h]
theorem flat_strs' (ys : List Str) : (ys.map A.str).all flatA = true := by
  induction ys with
  | nil => rfl
  | cons y ys ih => simp [flatA]
theorem opIn_strs (z : Str) (ys : List Str) (S : Store) : opIn (.str z) (.tup (ys.map .str)) S = .ok (.bl (decide (z ∈ ys))) S := by
  rw [opIn_tup _ rfl (flat_strs' ys), inFlat_str]
theorem opIn_strsL (z : Str) (ys : List Str) (S : Store) : opIn (.str z) (.lst (ys.map .str)) S = .ok (.bl (decide (z ∈ ys))) S := by
  rw [opIn_lst _ rfl (flat_strs' ys), inFlat_str]
end VM
end
section
set_option Elab.async false
set_option linter.all false
set_option maxRecDepth 100000
set_option maxHeartbeats 4000000
set_option autoImplicit false
/-! more equations: scopes, lists with handles. -/
namespace VM
open PySem PySem.Spec PyProof.Rows L2
mutual
theorem upTo_closed (n : Nat) : ∀ a : A, closed a = true → upTo n a = true
  | .ref _, h => absurd h (by unfold closed; decide)
  | .tup xs, h => by unfold upTo; exact upToL_closed n xs (by unfold closed at h; exact h)
  | .lst xs, h => by unfold upTo; exact upToL_closed n xs (by unfold closed at h; exact h)
  | .dic xs, h => by unfold upTo; exact upToK_closed n xs (by unfold closed at h; exact h)
  | .non, _ => rfl
  | .bl _, _ => rfl
  | .int _, _ => rfl
  | .str _, _ => rfl
  | .fn _, _ => rfl
theorem upToL_closed (n : Nat) : ∀ a : List A, closedL a = true → upToL n a = true
  | [], _ => rfl
  | x :: xs, h => by
    unfold closedL at h
    obtain ⟨h1, h2⟩ := Bool.and_eq_true_iff.mp h
    unfold upToL
    rw [upTo_closed n x h1, upToL_closed n xs h2]; rfl
theorem upToK_closed (n : Nat) : ∀ a : List (Key × A), closedK a = true → upToK n a = true
  | [], _ => rfl
  | (_, x) :: xs, h => by
    unfold closedK at h
    obtain ⟨h1, h2⟩ := Bool.and_eq_true_iff.mp h
    unfold upToK
    rw [upTo_closed n x h1, upToK_closed n xs h2]; rfl
end
theorem fzU_closed (n m : Nat) (S : Store) (a : A) (h : closed a = true) : fzU n m S a = some a := by
  have := upTo_closed m a h
  cases n <;> (unfold fzU; rw [if_pos this])
theorem optMapK_id (f : A → Option A) (hf : ∀ a, closed a = true → f a = some a) : ∀ kvs : List (Key × A), closedK kvs = true → optMapK f kvs = some kvs
  | [], _ => rfl
  | (k, a) :: r, h => by
    obtain ⟨h1, h2⟩ := Bool.and_eq_true_iff.mp (show (closed a && closedK r) = true from h)
    unfold optMapK
    rw [hf a h1, optMapK_id f hf r h2]
theorem optMap_id (f : A → Option A) (hf : ∀ a, closed a = true → f a = some a) : ∀ xs : List A, closedL xs = true → optMap f xs = some xs
  | [], _ => rfl
  | a :: r, h => by
    obtain ⟨h1, h2⟩ := Bool.and_eq_true_iff.mp (show (closed a && closedL r) = true from h)
    unfold optMap
    rw [hf a h1, optMap_id f hf r h2]
theorem fzU_dic (n m k : Nat) (S : Store) (d : List (Key × A)) (h : S[k]? = some (.dic d)) (hk : m ≤ k) (hd : closedK d = true) : fzU (n + 1) m S (.ref k) = some (.dic d) := by
  unfold fzU
  have : upTo m (.ref k) = false := by unfold upTo; exact decide_eq_false (by omega)
  rw [this]
  simp only [Bool.false_eq_true, if_false, h]
  rw [optMapK_id _ (fun a ha => fzU_closed n m S a ha) d hd]; rfl
theorem fzU_lst (n m k : Nat) (S : Store) (d : List A) (h : S[k]? = some (.lst d)) (hk : m ≤ k) (hd : closedL d = true) : fzU (n + 1) m S (.ref k) = some (.lst d) := by
  unfold fzU
  have : upTo m (.ref k) = false := by unfold upTo; exact decide_eq_false (by omega)
  rw [this]
  simp only [Bool.false_eq_true, if_false, h]
  rw [optMap_id _ (fun a ha => fzU_closed n m S a ha) d hd]; rfl
theorem opSet_lstN {n j : Nat} {xs : List A} {v : A} {S : Store} (h : S[n]? = some (.lst xs)) (hj : j < xs.length) : opSet (.ref n) (.int (j : Nat)) v S = .ok .non (S.set n (.lst (xs.set j v))) := by
  unfold opSet
  have e : ixN xs.length (j : Int) = some j := by
    unfold ixN
    rw [if_pos (by omega), if_pos (by omega)]; simp
  simp only [h, e]
theorem scopeR_ok {n : Nat} {a b : A} {S' : Store} (h1 : (S'.take n).all (upToO n) = true) (h2 : fzU 4 n S' a = some b) : scopeR n (.ok a S') = .ok b (S'.take n) := by
  unfold scopeR
  simp only
  rw [if_pos h1, h2]
end VM
end
section
set_option Elab.async false
set_option linter.all false
set_option maxRecDepth 100000
set_option maxHeartbeats 4000000
set_option autoImplicit false
/-! The defs of the law: what each computes, and that it does. -/
namespace K02
open PySem PySem.Spec PyProof.Rows L2 VM
def top (i : Nat) : Stmt := PySem.Challenge.pw_partsrun_k02_whole_map_or_fault.main.body.getD i (.Pass ⟨0, 0, 0, 0⟩)
abbrev st_is_name : Stmt := top 6
abbrev st_is_full : Stmt := top 7
abbrev st_is_word : Stmt := top 8
abbrev st_part_of : Stmt := top 9
abbrev st_own : Stmt := top 22
abbrev st_record_of : Stmt := top 23
abbrev st_signature : Stmt := top 24
abbrev st_is_type : Stmt := top 25
abbrev st_are_types : Stmt := top 26
abbrev st_is_result : Stmt := top 27
abbrev st_are_different : Stmt := top 28
abbrev st_is_instruction : Stmt := top 29
abbrev st_is_function : Stmt := top 30
abbrev st_is_use : Stmt := top 31
abbrev st_is_open : Stmt := top 32
abbrev st_is_part : Stmt := top 33
abbrev st_slots_of : Stmt := top 34
abbrev st_taken : Stmt := top 37
abbrev st_changed : Stmt := top 38
abbrev st_with_slot : Stmt := top 39
abbrev st_with_thing : Stmt := top 40
abbrev st_with_top : Stmt := top 41
abbrev st_with_call : Stmt := top 42
abbrev st_stack_behind : Stmt := top 44
abbrev st_steps_of : Stmt := top 45
abbrev st_shows_map : Stmt := top 47
abbrev st_walked : Stmt := top 48
abbrev st_least_map : Stmt := top 49
abbrev st_fault_paper : Stmt := top 50
abbrev st_stack_along : Stmt := top 51
abbrev st_shows_fault : Stmt := top 52
abbrev st_is_accepted : Stmt := top 53
abbrev st__law_deal : Stmt := top 55
abbrev st__law_take : Stmt := top 56
abbrev st__law_same : Stmt := top 57
abbrev st__law_bool : Stmt := top 58
abbrev st__law_pick : Stmt := top 59
abbrev st__law_word : Stmt := top 60
abbrev st__law_expr : Stmt := top 61
abbrev st__law_statement : Stmt := top 62
abbrev st__law_tree : Stmt := top 63
abbrev st__law_code : Stmt := top 64
abbrev st__law_statement_code : Stmt := top 65
abbrev st__law_body_code : Stmt := top 66
abbrev st__law_main_code : Stmt := top 67
abbrev st__law_parts : Stmt := top 68
abbrev st__law_drawn : Stmt := top 69
abbrev st__law_function : Stmt := top 70
abbrev st__law_behind : Stmt := top 71
abbrev st__law_steps : Stmt := top 72
abbrev st__law_map : Stmt := top 73
abbrev st__law_along : Stmt := top 74
abbrev st__law_fault : Stmt := top 75
abbrev st__law_least : Stmt := top 76
abbrev st__law_changed_map : Stmt := top 77
abbrev st_law : Stmt := top 78
def k_LETTERS : A := A.str "abcdefghijklmnopqrstuvwxyz"
def k_DIGITS : A := A.str "0123456789"
def k_LONGEST_NAME : A := A.int 12
def k_LEAST_WORD : A := A.int (-2147483648)
def k_GREATEST_WORD : A := A.int 2147483647
def k_INT : A := A.str "int"
def k_INTS : A := A.str "ints"
def k_NO_RESULT : A := A.str "none"
def k_FIELDS : A := A.tup [A.str "get", A.str "set"]
def k_PLAIN : A := A.tup [A.str "drop", A.str "dup", A.str "add", A.str "sub", A.str "mul", A.str "div", A.str "less", A.str "same", A.str "return", A.str "row", A.str "at", A.str "put", A.str "size", A.str "isnil", A.str "alike", A.str "say", A.str "trap"]
def k_MOST_RECORDS : A := A.int 8
def k_MOST_FIELDS : A := A.int 6
def k_MOST_USES : A := A.int 12
def k_MOST_FUNCTIONS : A := A.int 12
def k_MOST_PLACES : A := A.int 60
def k_MOST_SLOTS : A := A.int 12
def k_SUMS : A := A.tup [A.str "add", A.str "sub", A.str "mul", A.str "div", A.str "less", A.str "same"]
def t_FIXED : List (Str × Option A) := [(("push" : Str), some (A.tup [A.tup [], A.tup [A.str "int"]])),
  (("row" : Str), some (A.tup [A.tup [A.str "int"], A.tup [A.str "ints"]])),
  (("at" : Str), some (A.tup [A.tup [A.str "ints", A.str "int"], A.tup [A.str "int"]])),
  (("put" : Str), some (A.tup [A.tup [A.str "ints", A.str "int", A.str "int"], A.tup []])),
  (("size" : Str), some (A.tup [A.tup [A.str "ints"], A.tup [A.str "int"]])),
  (("say" : Str), some (A.tup [A.tup [A.str "int"], A.tup []])),
  (("branch" : Str), some (A.tup [A.tup [A.str "int"], A.tup []])),
  (("jump" : Str), some (A.tup [A.tup [], A.tup []])),
  (("trap" : Str), some (A.tup [A.tup [], A.tup []])),
  (("int" : Str), none),
  (("ints" : Str), none),
  (("none" : Str), none),
  (("get" : Str), none),
  (("set" : Str), none),
  (("drop" : Str), none),
  (("dup" : Str), none),
  (("add" : Str), none),
  (("sub" : Str), none),
  (("mul" : Str), none),
  (("div" : Str), none),
  (("less" : Str), none),
  (("same" : Str), none),
  (("return" : Str), none),
  (("isnil" : Str), none),
  (("alike" : Str), none),
  (("nil" : Str), none),
  (("rec" : Str), none),
  (("new" : Str), none),
  (("call" : Str), none),
  (("stuck" : Str), none),
  (("bin" : Str), none),
  (("num" : Str), none),
  (("var" : Str), none),
  (("make" : Str), none),
  (("first" : Str), none),
  (("cut" : Str), none),
  (("if" : Str), none),
  (("f" : Str), none),
  (("lib" : Str), none),
  (("go" : Str), none),
  (("main" : Str), none),
  (("load" : Str), none),
  (("store" : Str), none),
  (("fun" : Str), none),
  (("apart" : Str), none),
  (("loop" : Str), none),
  (("pair" : Str), none),
  (("odd" : Str), none)]
def b_is_name_0 : CS :=
    (sIf (tAnd (tVal (c2 opNotIn (cVar 1) (cC k_LETTERS))) (tVal (c2 opNotIn (cVar 1) (cC k_DIGITS))))
    (sRet (cC (.bl false)))
    sNil)
def b_is_name_1 : CS :=
    (sRet (cC (.bl true)))
def b_is_name_2 : CS :=
    (sSeq (sFor (cItS (cVar 0)) (gN 1)
    b_is_name_0 [0, 1])
    b_is_name_1)
/-- is_name(text): slots 0 text, 1 sign -/
def b_is_name : CS :=
    (sSeq (sIf (tOr (tNot (tVal (cChain opLe opLe (cC (.int 1)) (cApp opLen (cCons (cVar 0) cNil)) (cC k_LONGEST_NAME)))) (tVal (c2 opNotIn (c2 opIx (cVar 0) (cC (.int 0))) (cC k_LETTERS))))
    (sRet (cC (.bl false)))
    sNil)
    b_is_name_2)
def m_is_name : List A → M A := pureF (runBody 2 b_is_name)
def b_is_full_0 : CS :=
    (sRet (cAnd (c2 opEq (cApp opLen (cCons (cVar 1) cNil)) (cC (.int 2))) (cAnd (cApp m_is_name (cCons (c2 opIx (cVar 1) (cC (.int 0))) cNil)) (cApp m_is_name (cCons (c2 opIx (cVar 1) (cC (.int 1))) cNil)))))
/-- is_full(text): slots 0 text, 1 parts -/
def b_is_full : CS :=
    (sSeq (sSet 1 (cM1 opSplit (cVar 0) (cC (.str "."))))
    b_is_full_0)
def m_is_full : List A → M A := pureF (runBody 2 b_is_full)
/-- is_word(n): slots 0 n -/
def b_is_word : CS :=
    (sRet (cChain opLe opLe (cC k_LEAST_WORD) (cVar 0) (cC k_GREATEST_WORD)))
def m_is_word : List A → M A := pureF (runBody 1 b_is_word)
/-- part_of(full): slots 0 full -/
def b_part_of : CS :=
    (sRet (c2 opIx (cM1 opSplit (cVar 0) (cC (.str "."))) (cC (.int 0))))
def m_part_of : List A → M A := pureF (runBody 1 b_part_of)
/-- own(part, name): slots 0 part, 1 name -/
def b_own : CS :=
    (sRet (c2 opAdd (c2 opAdd (c2 opIx (cVar 0) (cC (.int 0))) (cC (.str "."))) (cVar 1)))
def m_own : List A → M A := pureF (runBody 2 b_own)
def b_record_of_0 : CS :=
    (sIf (tVal (c2 opEq (cApp m_own (cCons (cVar 0) (cCons (cVar 2) cNil))) (cVar 1)))
    (sRet (cVar 3))
    sNil)
def b_record_of_1 : CS :=
    (sIf (tAnd (tVal (c2 opEq (c2 opIx (cVar 4) (cC (.int 0))) (cC (.str "rec")))) (tVal (c2 opEq (c2 opIx (cVar 4) (cC (.int 1))) (cVar 1))))
    (sRet (c2 opIx (cVar 4) (cC (.int 2))))
    sNil)
def b_record_of_2 : CS :=
    (sRet (cC .non))
def b_record_of_3 : CS :=
    (sSeq (sFor (cItF (c2 opIx (cVar 0) (cC (.int 2)))) (gN 4)
    b_record_of_1 [0, 2, 3, 4])
    b_record_of_2)
/-- record_of(part, full): slots 0 part, 1 full, 2 name, 3 fields, 4 use -/
def b_record_of : CS :=
    (sSeq (sFor (cItF (c2 opIx (cVar 0) (cC (.int 1)))) (gT ([2, 3].map gN))
    b_record_of_0 [2, 3, 4])
    b_record_of_3)
def m_record_of : List A → M A := pureF (runBody 5 b_record_of)
def b_signature_0 : CS :=
    (sIf (tVal (c2 opEq (cApp m_own (cCons (cVar 0) (cCons (c2 opIx (cVar 2) (cC (.int 0))) cNil))) (cVar 1)))
    (sRet (cTup (cCons (c2 opIx (cVar 2) (cC (.int 1))) (cCons (c2 opIx (cVar 2) (cC (.int 2))) cNil))))
    sNil)
def b_signature_1 : CS :=
    (sIf (tAnd (tVal (c2 opEq (c2 opIx (cVar 3) (cC (.int 0))) (cC (.str "fun")))) (tVal (c2 opEq (c2 opIx (cVar 3) (cC (.int 1))) (cVar 1))))
    (sRet (cTup (cCons (c2 opIx (cVar 3) (cC (.int 2))) (cCons (c2 opIx (cVar 3) (cC (.int 3))) cNil))))
    sNil)
def b_signature_2 : CS :=
    (sRet (cC .non))
def b_signature_3 : CS :=
    (sSeq (sFor (cItF (c2 opIx (cVar 0) (cC (.int 2)))) (gN 3)
    b_signature_1 [0, 2, 3])
    b_signature_2)
/-- signature(part, full): slots 0 part, 1 full, 2 function, 3 use -/
def b_signature : CS :=
    (sSeq (sFor (cItF (c2 opIx (cVar 0) (cC (.int 3)))) (gN 2)
    b_signature_0 [2, 3])
    b_signature_3)
def m_signature : List A → M A := pureF (runBody 4 b_signature)
/-- is_type(part, text): slots 0 part, 1 text -/
def b_is_type : CS :=
    (sRet (cOr (c2 opIn (cVar 1) (cTup (cCons (cC k_INT) (cCons (cC k_INTS) cNil)))) (c2 opNotN (cApp m_record_of (cCons (cVar 0) (cCons (cVar 1) cNil))) (cC .non))))
def m_is_type : List A → M A := pureF (runBody 2 b_is_type)
/-- are_types(part, types, most): slots 0 part, 1 types, 2 most, 3 text -/
def b_are_types : CS :=
    (sRet (cAnd (c2 opLe (cApp opLen (cCons (cVar 1) cNil)) (cVar 2)) (c2 opEq (cApp opLen (cCons (cLc (cItF (cVar 1)) [3] (gN 3) (tNot (tVal (cApp m_is_type (cCons (cVar 0) (cCons (cVar 3) cNil))))) (cC (.int 1))) cNil)) (cC (.int 0)))))
def m_are_types : List A → M A := pureF (runBody 4 b_are_types)
/-- is_result(part, text): slots 0 part, 1 text -/
def b_is_result : CS :=
    (sRet (cOr (c2 opEq (cVar 1) (cC k_NO_RESULT)) (cApp m_is_type (cCons (cVar 0) (cCons (cVar 1) cNil)))))
def m_is_result : List A → M A := pureF (runBody 2 b_is_result)
/-- are_different(names): slots 0 names -/
def b_are_different : CS :=
    (sRet (c2 opEq (c1 opLenSet (cVar 0)) (cApp opLen (cCons (cVar 0) cNil))))
def m_are_different : List A → M A := pureF (runBody 1 b_are_different)
def b_is_instruction_0 : CS :=
    (sRet (cAnd (c2 opIn (cVar 1) (cTup (cCons (cC (.str "call")) (cCons (cC (.str "new")) cNil)))) (cApp m_is_full (cCons (c2 opIx (cVar 2) (cC (.int 0))) cNil))))
def b_is_instruction_1 : CS :=
    (sSeq (sIf (tVal (c2 opEq (cVar 1) (cC (.str "nil"))))
    (sRet (cOr (c2 opEq (c2 opIx (cVar 2) (cC (.int 0))) (cC k_INTS)) (cApp m_is_full (cCons (c2 opIx (cVar 2) (cC (.int 0))) cNil))))
    sNil)
    b_is_instruction_0)
def b_is_instruction_2 : CS :=
    (sSeq (sIf (tVal (c2 opIn (cVar 1) (cTup (cCons (cC (.str "jump")) (cCons (cC (.str "branch")) cNil)))))
    (sRet (cChain opLe opLt (cC (.int 0)) (c2 opIx (cVar 2) (cC (.int 0))) (cC k_MOST_PLACES)))
    sNil)
    b_is_instruction_1)
def b_is_instruction_3 : CS :=
    (sSeq (sIf (tVal (c2 opIn (cVar 1) (cTup (cCons (cC (.str "load")) (cCons (cC (.str "store")) cNil)))))
    (sRet (cChain opLe opLt (cC (.int 0)) (c2 opIx (cVar 2) (cC (.int 0))) (cC k_MOST_SLOTS)))
    sNil)
    b_is_instruction_2)
def b_is_instruction_4 : CS :=
    (sSeq (sIf (tVal (c2 opEq (cVar 1) (cC (.str "push"))))
    (sRet (cApp m_is_word (cCons (c2 opIx (cVar 2) (cC (.int 0))) cNil)))
    sNil)
    b_is_instruction_3)
def b_is_instruction_5 : CS :=
    (sSeq (sIf (tVal (c2 opNe (cApp opLen (cCons (cVar 2) cNil)) (cC (.int 1))))
    (sRet (cC (.bl false)))
    sNil)
    b_is_instruction_4)
def b_is_instruction_6 : CS :=
    (sSeq (sIf (tVal (c2 opIn (cVar 1) (cC k_FIELDS)))
    (sRet (cAnd (c2 opEq (cApp opLen (cCons (cVar 2) cNil)) (cC (.int 2))) (cAnd (cApp m_is_full (cCons (c2 opIx (cVar 2) (cC (.int 0))) cNil)) (cChain opLe opLt (cC (.int 0)) (c2 opIx (cVar 2) (cC (.int 1))) (cC k_MOST_FIELDS)))))
    sNil)
    b_is_instruction_5)
def b_is_instruction_7 : CS :=
    (sSeq (sIf (tVal (c2 opIn (cVar 1) (cC k_PLAIN)))
    (sRet (c2 opEq (cApp opLen (cCons (cVar 2) cNil)) (cC (.int 0))))
    sNil)
    b_is_instruction_6)
def b_is_instruction_8 : CS :=
    (sSeq (sSet 2 (cSl (cVar 0) (pSome (cC (.int 1))) pNo))
    b_is_instruction_7)
/-- is_instruction(instruction): slots 0 instruction, 1 word, 2 rest -/
def b_is_instruction : CS :=
    (sSeq (sSet 1 (c2 opIx (cVar 0) (cC (.int 0))))
    b_is_instruction_8)
def m_is_instruction : List A → M A := pureF (runBody 3 b_is_instruction)
def b_is_function_0 : CS :=
    (sRet (c2 opEq (cApp opLen (cCons (cLc (cItF (cVar 6)) [7] (gN 7) (tNot (tVal (cApp m_is_instruction (cCons (cVar 7) cNil)))) (cC (.int 1))) cNil)) (cC (.int 0))))
def b_is_function_1 : CS :=
    (sSeq (sIf (tOr (tNot (tVal (cApp m_is_result (cCons (cVar 0) (cCons (cVar 4) cNil))))) (tVal (c2 opGt (cApp opLen (cCons (cVar 6) cNil)) (cC k_MOST_PLACES))))
    (sRet (cC (.bl false)))
    sNil)
    b_is_function_0)
def b_is_function_2 : CS :=
    (sSeq (sIf (tOr (tNot (tVal (cApp m_is_name (cCons (cVar 2) cNil)))) (tOr (tNot (tVal (cApp m_are_types (cCons (cVar 0) (cCons (cVar 3) (cCons (cC k_MOST_FIELDS) cNil)))))) (tNot (tVal (cApp m_are_types (cCons (cVar 0) (cCons (cVar 5) (cCons (cC k_MOST_FIELDS) cNil))))))))
    (sRet (cC (.bl false)))
    sNil)
    b_is_function_1)
/-- is_function(part, function): slots 0 part, 1 function, 2 name, 3 parameters, 4 result, 5 slots, 6 code, 7 instruction -/
def b_is_function : CS :=
    (sSeq (sAsg (cVar 1) (gT ([2, 3, 4, 5, 6].map gN)))
    b_is_function_2)
def m_is_function : List A → M A := pureF (runBody 8 b_is_function)
def b_is_use_0 : CS :=
    (sRet (cAnd (c2 opEq (c2 opIx (cVar 1) (cC (.int 0))) (cC (.str "fun"))) (cAnd (c2 opEq (cApp opLen (cCons (cVar 1) cNil)) (cC (.int 4))) (cAnd (cApp m_are_types (cCons (cVar 0) (cCons (c2 opIx (cVar 1) (cC (.int 2))) (cCons (cC k_MOST_FIELDS) cNil)))) (cApp m_is_result (cCons (cVar 0) (cCons (c2 opIx (cVar 1) (cC (.int 3))) cNil)))))))
def b_is_use_1 : CS :=
    (sSeq (sIf (tVal (c2 opEq (c2 opIx (cVar 1) (cC (.int 0))) (cC (.str "rec"))))
    (sRet (cAnd (c2 opEq (cApp opLen (cCons (cVar 1) cNil)) (cC (.int 3))) (cApp m_are_types (cCons (cVar 0) (cCons (c2 opIx (cVar 1) (cC (.int 2))) (cCons (cC k_MOST_FIELDS) cNil))))))
    sNil)
    b_is_use_0)
/-- is_use(part, use): slots 0 part, 1 use -/
def b_is_use : CS :=
    (sSeq (sIf (tOr (tNot (tVal (cApp m_is_full (cCons (c2 opIx (cVar 1) (cC (.int 1))) cNil)))) (tVal (c2 opEq (cApp m_part_of (cCons (c2 opIx (cVar 1) (cC (.int 1))) cNil)) (c2 opIx (cVar 0) (cC (.int 0))))))
    (sRet (cC (.bl false)))
    sNil)
    b_is_use_1)
def m_is_use : List A → M A := pureF (runBody 2 b_is_use)
def b_is_open_0 : CS :=
    (sIf (tOr (tVal (c2 opNe (cMt "list" opCountS (cVar 1) (cCons (cVar 3) cNil)) (cC (.int 1)))) (tAnd (tVal (c2 opGt (cVar 2) (cC (.int 0)))) (tNot (tVal (c2 opLt (c2 opIx (c2 opIx (cVar 0) (cC (.int 4))) (c2 opSub (cVar 2) (cC (.int 1)))) (cVar 3))))))
    (sRet (cC (.bl false)))
    sNil)
def b_is_open_1 : CS :=
    (sSeq (sSet 3 (c2 opIx (c2 opIx (cVar 0) (cC (.int 4))) (cVar 2)))
    b_is_open_0)
def b_is_open_2 : CS :=
    (sRet (cC (.bl true)))
def b_is_open_3 : CS :=
    (sSeq (sFor (cItR1 (cApp opLen (cCons (c2 opIx (cVar 0) (cC (.int 4))) cNil))) (gN 2)
    b_is_open_1 [2, 3, 4, 5])
    b_is_open_2)
/-- is_open(part): slots 0 part, 1 names, 2 k, 3 name, 4 record, 5 function -/
def b_is_open : CS :=
    (sSeq (sSet 1 (c2 opAdd (cLc (cItF (c2 opIx (cVar 0) (cC (.int 1)))) [4] (gN 4) cYes (c2 opIx (cVar 4) (cC (.int 0)))) (cLc (cItF (c2 opIx (cVar 0) (cC (.int 3)))) [5] (gN 5) cYes (c2 opIx (cVar 5) (cC (.int 0))))))
    b_is_open_3)
def m_is_open : List A → M A := pureF (runBody 6 b_is_open)
def b_is_part_0 : CS :=
    (sIf (tOr (tNot (tVal (cApp m_is_name (cCons (cVar 6) cNil)))) (tNot (tVal (cApp m_are_types (cCons (cVar 0) (cCons (cVar 7) (cCons (cC k_MOST_FIELDS) cNil)))))))
    (sRet (cC (.bl false)))
    sNil)
def b_is_part_1 : CS :=
    (sRet (cAnd (c2 opEq (cApp opLen (cCons (cLc (cItF (cVar 4)) [9] (gN 9) (tNot (tVal (cApp m_is_function (cCons (cVar 0) (cCons (cVar 9) cNil))))) (cC (.int 1))) cNil)) (cC (.int 0))) (cApp m_is_open (cCons (cVar 0) cNil))))
def b_is_part_2 : CS :=
    (sSeq (sIf (tVal (c2 opGt (cApp opLen (cCons (cLc (cItF (cVar 3)) [8] (gN 8) (tNot (tVal (cApp m_is_use (cCons (cVar 0) (cCons (cVar 8) cNil))))) (cC (.int 1))) cNil)) (cC (.int 0))))
    (sRet (cC (.bl false)))
    sNil)
    b_is_part_1)
def b_is_part_3 : CS :=
    (sSeq (sFor (cItF (cVar 2)) (gT ([6, 7].map gN))
    b_is_part_0 [1, 2, 5, 6, 7, 8, 9])
    b_is_part_2)
def b_is_part_4 : CS :=
    (sSeq (sIf (tNot (tVal (cApp m_are_different (cCons (cLc (cItF (cVar 4)) [9] (gN 9) cYes (c2 opIx (cVar 9) (cC (.int 0)))) cNil))))
    (sRet (cC (.bl false)))
    sNil)
    b_is_part_3)
def b_is_part_5 : CS :=
    (sSeq (sIf (tOr (tNot (tVal (cApp m_are_different (cCons (cLc (cItF (cVar 2)) [6] (gN 6) cYes (c2 opIx (cVar 6) (cC (.int 0)))) cNil)))) (tNot (tVal (cApp m_are_different (cCons (cLc (cItF (cVar 3)) [8] (gN 8) cYes (c2 opIx (cVar 8) (cC (.int 1)))) cNil)))))
    (sRet (cC (.bl false)))
    sNil)
    b_is_part_4)
def b_is_part_6 : CS :=
    (sSeq (sIf (tOr (tNot (tVal (cApp m_is_name (cCons (cVar 1) cNil)))) (tOr (tVal (c2 opGt (cApp opLen (cCons (cVar 2) cNil)) (cC k_MOST_RECORDS))) (tOr (tVal (c2 opGt (cApp opLen (cCons (cVar 3) cNil)) (cC k_MOST_USES))) (tVal (c2 opGt (cApp opLen (cCons (cVar 4) cNil)) (cC k_MOST_FUNCTIONS))))))
    (sRet (cC (.bl false)))
    sNil)
    b_is_part_5)
/-- is_part(part): slots 0 part, 1 name, 2 records, 3 uses, 4 functions, 5 _, 6 record, 7 fields, 8 use, 9 function -/
def b_is_part : CS :=
    (sSeq (sAsg (cVar 0) (gT ([1, 2, 3, 4, 5].map gN)))
    b_is_part_6)
def m_is_part : List A → M A := pureF (runBody 10 b_is_part)
/-- slots_of(function): slots 0 function -/
def b_slots_of : CS :=
    (sRet (c2 opAdd (cApp opTup (cCons (c2 opIx (cVar 0) (cC (.int 1))) cNil)) (cApp opTup (cCons (c2 opIx (cVar 0) (cC (.int 3))) cNil))))
def m_slots_of : List A → M A := pureF (runBody 1 b_slots_of)
def b_taken_0 : CS :=
    (sRet (cApp opTup (cCons (cSl (cVar 0) pNo (pSome (cVar 2))) cNil)))
def b_taken_1 : CS :=
    (sSeq (sIf (tOr (tVal (c2 opLt (cVar 2) (cC (.int 0)))) (tVal (c2 opNe (cApp opTup (cCons (cSl (cVar 0) (pSome (cVar 2)) pNo) cNil)) (cApp opTup (cCons (cVar 1) cNil)))))
    (sRet (cC .non))
    sNil)
    b_taken_0)
/-- taken(stack, types): slots 0 stack, 1 types, 2 size -/
def b_taken : CS :=
    (sSeq (sSet 2 (c2 opSub (cApp opLen (cCons (cVar 0) cNil)) (cApp opLen (cCons (cVar 1) cNil))))
    b_taken_1)
def m_taken : List A → M A := pureF (runBody 3 b_taken)
def b_changed_0 : CS :=
    (sRet (cIf (tVal (c2 opIsN (cVar 3) (cC .non))) (cC .non) (c2 opAdd (cVar 3) (cApp opTup (cCons (cVar 2) cNil)))))
/-- changed(stack, takes, leaves): slots 0 stack, 1 takes, 2 leaves, 3 rest -/
def b_changed : CS :=
    (sSeq (sSet 3 (cApp m_taken (cCons (cVar 0) (cCons (cVar 1) cNil))))
    b_changed_0)
def m_changed : List A → M A := pureF (runBody 4 b_changed)
def b_with_slot_0 : CS :=
    (sRet (cIf (tVal (c2 opEq (cVar 1) (cC (.str "load")))) (c2 opAdd (cApp opTup (cCons (cVar 3) cNil)) (cTup (cCons (c2 opIx (cVar 4) (cVar 2)) cNil))) (cApp m_taken (cCons (cVar 3) (cCons (cTup (cCons (c2 opIx (cVar 4) (cVar 2)) cNil)) cNil)))))
def b_with_slot_1 : CS :=
    (sSeq (sIf (tVal (c2 opGe (cVar 2) (cApp opLen (cCons (cVar 4) cNil))))
    (sRet (cC .non))
    sNil)
    b_with_slot_0)
/-- with_slot(function, word, i, stack): slots 0 function, 1 word, 2 i, 3 stack, 4 slots -/
def b_with_slot : CS :=
    (sSeq (sSet 4 (cApp m_slots_of (cCons (cVar 0) cNil)))
    b_with_slot_1)
def m_with_slot : List A → M A := pureF (runBody 5 b_with_slot)
def b_with_thing_0 : CS :=
    (sRet (cIf (tVal (c2 opEq (cVar 3) (cC (.str "get")))) (cApp m_changed (cCons (cVar 2) (cCons (cTup (cCons (cVar 4) cNil)) (cCons (cTup (cCons (cVar 6) cNil)) cNil)))) (cApp m_changed (cCons (cVar 2) (cCons (cTup (cCons (cVar 4) (cCons (cVar 6) cNil))) (cCons (cTup cNil) cNil))))))
def b_with_thing_1 : CS :=
    (sSeq (sSet 6 (c2 opIx (cVar 5) (c2 opIx (cVar 1) (cC (.int 2)))))
    b_with_thing_0)
def b_with_thing_2 : CS :=
    (sSeq (sIf (tVal (c2 opGe (c2 opIx (cVar 1) (cC (.int 2))) (cApp opLen (cCons (cVar 5) cNil))))
    (sRet (cC .non))
    sNil)
    b_with_thing_1)
def b_with_thing_3 : CS :=
    (sSeq (sIf (tVal (c2 opEq (cVar 3) (cC (.str "new"))))
    (sRet (c2 opAdd (cApp opTup (cCons (cVar 2) cNil)) (cTup (cCons (cVar 4) cNil))))
    sNil)
    b_with_thing_2)
def b_with_thing_4 : CS :=
    (sSeq (sIf (tVal (c2 opIsN (cVar 5) (cC .non)))
    (sRet (cC .non))
    sNil)
    b_with_thing_3)
def b_with_thing_5 : CS :=
    (sSeq (sIf (tVal (c2 opEq (cVar 3) (cC (.str "nil"))))
    (sRet (cIf (tOr (tVal (c2 opEq (cVar 4) (cC k_INTS))) (tVal (c2 opNotN (cVar 5) (cC .non)))) (c2 opAdd (cApp opTup (cCons (cVar 2) cNil)) (cTup (cCons (cVar 4) cNil))) (cC .non)))
    sNil)
    b_with_thing_4)
def b_with_thing_6 : CS :=
    (sSeq (sSet 5 (cApp m_record_of (cCons (cVar 0) (cCons (cVar 4) cNil))))
    b_with_thing_5)
/-- with_thing(part, instruction, stack): slots 0 part, 1 instruction, 2 stack, 3 word, 4 full, 5 fields, 6 field -/
def b_with_thing : CS :=
    (sSeq (sPar2 3 4 (cCons (c2 opIx (cVar 1) (cC (.int 0))) (cCons (c2 opIx (cVar 1) (cC (.int 1))) cNil)))
    b_with_thing_6)
def m_with_thing : List A → M A := pureF (runBody 7 b_with_thing)
def b_with_top_0 : CS :=
    (sRet (c2 opAdd (cApp opTup (cCons (cSl (cVar 1) pNo (pSome (c1 opNeg (cC (.int 2))))) cNil)) (cTup (cCons (cC k_INT) cNil))))
def b_with_top_1 : CS :=
    (sSeq (sIf (tOr (tVal (c2 opLt (cApp opLen (cCons (cVar 1) cNil)) (cC (.int 2)))) (tOr (tVal (c2 opEq (c2 opIx (cVar 1) (c1 opNeg (cC (.int 1)))) (cC k_INT))) (tVal (c2 opNe (c2 opIx (cVar 1) (c1 opNeg (cC (.int 1)))) (c2 opIx (cVar 1) (c1 opNeg (cC (.int 2))))))))
    (sRet (cC .non))
    sNil)
    b_with_top_0)
def b_with_top_2 : CS :=
    (sSeq (sIf (tVal (c2 opEq (cVar 0) (cC (.str "isnil"))))
    (sRet (cIf (tAnd (tVal (c2 opGt (cApp opLen (cCons (cVar 1) cNil)) (cC (.int 0)))) (tVal (c2 opNe (c2 opIx (cVar 1) (c1 opNeg (cC (.int 1)))) (cC k_INT)))) (c2 opAdd (cApp opTup (cCons (cSl (cVar 1) pNo (pSome (c1 opNeg (cC (.int 1))))) cNil)) (cTup (cCons (cC k_INT) cNil))) (cC .non)))
    sNil)
    b_with_top_1)
def b_with_top_3 : CS :=
    (sSeq (sIf (tVal (c2 opEq (cVar 0) (cC (.str "dup"))))
    (sRet (cIf (tVal (c2 opGt (cApp opLen (cCons (cVar 1) cNil)) (cC (.int 0)))) (c2 opAdd (cApp opTup (cCons (cVar 1) cNil)) (cTup (cCons (c2 opIx (cVar 1) (c1 opNeg (cC (.int 1)))) cNil))) (cC .non)))
    sNil)
    b_with_top_2)
/-- with_top(word, stack): slots 0 word, 1 stack -/
def b_with_top : CS :=
    (sSeq (sIf (tVal (c2 opEq (cVar 0) (cC (.str "drop"))))
    (sRet (cIf (tVal (c2 opGt (cApp opLen (cCons (cVar 1) cNil)) (cC (.int 0)))) (cApp opTup (cCons (cSl (cVar 1) pNo (pSome (c1 opNeg (cC (.int 1))))) cNil)) (cC .non)))
    sNil)
    b_with_top_3)
def m_with_top : List A → M A := pureF (runBody 2 b_with_top)
def b_with_call_0 : CS :=
    (sRet (cApp m_changed (cCons (cVar 2) (cCons (c2 opIx (cVar 3) (cC (.int 0))) (cCons (cIf (tVal (c2 opEq (c2 opIx (cVar 3) (cC (.int 1))) (cC k_NO_RESULT))) (cTup cNil) (cTup (cCons (c2 opIx (cVar 3) (cC (.int 1))) cNil))) cNil)))))
def b_with_call_1 : CS :=
    (sSeq (sIf (tVal (c2 opIsN (cVar 3) (cC .non)))
    (sRet (cC .non))
    sNil)
    b_with_call_0)
/-- with_call(part, full, stack): slots 0 part, 1 full, 2 stack, 3 found -/
def b_with_call : CS :=
    (sSeq (sSet 3 (cApp m_signature (cCons (cVar 0) (cCons (cVar 1) cNil))))
    b_with_call_1)
def m_with_call : List A → M A := pureF (runBody 4 b_with_call)
def b_stack_behind_0 : CS :=
    (sRet (cIf (tVal (c2 opEq (cApp opTup (cCons (cVar 3) cNil)) (cIf (tVal (c2 opEq (c2 opIx (cVar 1) (cC (.int 2))) (cC k_NO_RESULT))) (cTup cNil) (cTup (cCons (c2 opIx (cVar 1) (cC (.int 2))) cNil))))) (cTup cNil) (cC .non)))
def b_stack_behind_1 : CS :=
    (sSeq (sIf (tVal (c2 opEq (cVar 4) (cC (.str "call"))))
    (sRet (cApp m_with_call (cCons (cVar 0) (cCons (c2 opIx (cVar 2) (cC (.int 1))) (cCons (cVar 3) cNil)))))
    sNil)
    b_stack_behind_0)
def b_stack_behind_2 : CS :=
    (sSeq (sIf (tVal (c2 opIn (cVar 4) (cTup (cCons (cC (.str "drop")) (cCons (cC (.str "dup")) (cCons (cC (.str "isnil")) (cCons (cC (.str "alike")) cNil)))))))
    (sRet (cApp m_with_top (cCons (cVar 4) (cCons (cVar 3) cNil))))
    sNil)
    b_stack_behind_1)
def b_stack_behind_3 : CS :=
    (sSeq (sIf (tVal (c2 opIn (cVar 4) (cTup (cCons (cC (.str "new")) (cCons (cC (.str "get")) (cCons (cC (.str "set")) (cCons (cC (.str "nil")) cNil)))))))
    (sRet (cApp m_with_thing (cCons (cVar 0) (cCons (cVar 2) (cCons (cVar 3) cNil)))))
    sNil)
    b_stack_behind_2)
def b_stack_behind_4 : CS :=
    (sSeq (sIf (tVal (c2 opIn (cVar 4) (cTup (cCons (cC (.str "load")) (cCons (cC (.str "store")) cNil)))))
    (sRet (cApp m_with_slot (cCons (cVar 1) (cCons (cVar 4) (cCons (c2 opIx (cVar 2) (cC (.int 1))) (cCons (cVar 3) cNil))))))
    sNil)
    b_stack_behind_3)
def b_stack_behind_5 : CS :=
    (sSeq (sIf (tVal (c1 (opTabIn t_FIXED) (cVar 4)))
    (sRet (cApp m_changed (cCons (cVar 3) (cCons (c2 opIx (c1 (opTabIx t_FIXED) (cVar 4)) (cC (.int 0))) (cCons (c2 opIx (c1 (opTabIx t_FIXED) (cVar 4)) (cC (.int 1))) cNil)))))
    sNil)
    b_stack_behind_4)
def b_stack_behind_6 : CS :=
    (sSeq (sIf (tVal (c2 opIn (cVar 4) (cC k_SUMS)))
    (sRet (cApp m_changed (cCons (cVar 3) (cCons (cTup (cCons (cC k_INT) (cCons (cC k_INT) cNil))) (cCons (cTup (cCons (cC k_INT) cNil)) cNil)))))
    sNil)
    b_stack_behind_5)
/-- stack_behind(part, function, instruction, stack): slots 0 part, 1 function, 2 instruction, 3 stack, 4 word -/
def b_stack_behind : CS :=
    (sSeq (sSet 4 (c2 opIx (cVar 2) (cC (.int 0))))
    b_stack_behind_6)
def m_stack_behind : List A → M A := pureF (runBody 5 b_stack_behind)
def b_steps_of_0 : CS :=
    (sRet (cLst (cCons (cTup (cCons (c2 opAdd (cVar 2) (cC (.int 1))) (cCons (cVar 5) cNil))) cNil)))
def b_steps_of_1 : CS :=
    (sSeq (sIf (tAnd (tVal (c2 opEq (c2 opIx (cVar 4) (cC (.int 0))) (cC (.str "branch")))) (tVal (c2 opNe (c2 opIx (cVar 4) (cC (.int 1))) (c2 opAdd (cVar 2) (cC (.int 1))))))
    (sRet (cApp opSort2 (cCons (cLst (cCons (cTup (cCons (c2 opAdd (cVar 2) (cC (.int 1))) (cCons (cVar 5) cNil))) (cCons (cTup (cCons (c2 opIx (cVar 4) (cC (.int 1))) (cCons (cVar 5) cNil))) cNil))) cNil)))
    sNil)
    b_steps_of_0)
def b_steps_of_2 : CS :=
    (sSeq (sIf (tVal (c2 opEq (c2 opIx (cVar 4) (cC (.int 0))) (cC (.str "jump"))))
    (sRet (cLst (cCons (cTup (cCons (c2 opIx (cVar 4) (cC (.int 1))) (cCons (cVar 5) cNil))) cNil)))
    sNil)
    b_steps_of_1)
def b_steps_of_3 : CS :=
    (sSeq (sIf (tVal (c2 opIn (c2 opIx (cVar 4) (cC (.int 0))) (cTup (cCons (cC (.str "return")) (cCons (cC (.str "trap")) cNil)))))
    (sRet (cLst cNil))
    sNil)
    b_steps_of_2)
def b_steps_of_4 : CS :=
    (sSeq (sIf (tVal (c2 opIsN (cVar 5) (cC .non)))
    (sRet (cC .non))
    sNil)
    b_steps_of_3)
def b_steps_of_5 : CS :=
    (sSeq (sSet 5 (cApp m_stack_behind (cCons (cVar 0) (cCons (cVar 1) (cCons (cVar 4) (cCons (cVar 3) cNil))))))
    b_steps_of_4)
def b_steps_of_6 : CS :=
    (sSeq (sSet 4 (c2 opIx (c2 opIx (cVar 1) (cC (.int 4))) (cVar 2)))
    b_steps_of_5)
/-- steps_of(part, function, place, stack): slots 0 part, 1 function, 2 place, 3 stack, 4 instruction, 5 behind -/
def b_steps_of : CS :=
    (sSeq (sIf (tNot (tVal (cChain opLe opLt (cC (.int 0)) (cVar 2) (cApp opLen (cCons (c2 opIx (cVar 1) (cC (.int 4))) cNil)))))
    (sRet (cC .non))
    sNil)
    b_steps_of_6)
def m_steps_of : List A → M A := pureF (runBody 6 b_steps_of)
def b_shows_map_0 : CS :=
    (sIf (tOr (tVal (c2 opIsN (cVar 5) (cC .non))) (tVal (c2 opGt (cApp opLen (cCons (cLc (cItF (cVar 5)) [6, 7] (gT ([6, 7].map gN)) (tVal (c2 opNe (cGet1 (cVar 2) (cVar 6)) (cVar 7))) (cC (.int 1))) cNil)) (cC (.int 0)))))
    (sRet (cC (.bl false)))
    sNil)
def b_shows_map_1 : CS :=
    (sSeq (sSet 5 (cApp m_steps_of (cCons (cVar 0) (cCons (cVar 1) (cCons (cVar 3) (cCons (cVar 4) cNil))))))
    b_shows_map_0)
def b_shows_map_2 : CS :=
    (sRet (cC (.bl true)))
def b_shows_map_3 : CS :=
    (sSeq (sForD itemsP 2 (gT ([3, 4].map gN))
    b_shows_map_1 [3, 4, 5, 6, 7])
    b_shows_map_2)
/-- shows_map(part, function, paper): slots 0 part, 1 function, 2 paper, 3 place, 4 stack, 5 steps, 6 next_place, 7 behind -/
def b_shows_map : CS :=
    (sSeq (sIf (tVal (c2 opNe (cGet1 (cVar 2) (cC (.int 0))) (cTup cNil)))
    (sRet (cC (.bl false)))
    sNil)
    b_shows_map_3)
def m_shows_map : List A → M A := pureF (runBody 8 b_shows_map)
def b_walked_0 : CS :=
    (sIf (tVal (c2 opNotIn (cVar 8) (cVar 2)))
    (sSeq (sAsg (cVar 9) (gSub (cVar 2) (cVar 8) opSet))
    (sSeq (sAsg (c2 opAdd (c2 opIx (cVar 3) (cVar 6)) (cTup (cCons (cVar 8) cNil))) (gSub (cVar 3) (cVar 8) opSet))
    (sExp (cMt "list" opApp (cVar 4) (cCons (cVar 8) cNil)))))
    (sIf (tVal (c2 opNe (c2 opIx (cVar 2) (cVar 8)) (cVar 9)))
    (sRet (cTup (cCons (cC .non) (cCons (cTup (cCons (cC (.str "apart")) (cCons (c2 opIx (cVar 3) (cVar 8)) (cCons (c2 opAdd (c2 opIx (cVar 3) (cVar 6)) (cTup (cCons (cVar 8) cNil))) cNil)))) cNil))))
    sNil))
def b_walked_1 : CS :=
    (sFor (cItF (cVar 7)) (gT ([8, 9].map gN))
    b_walked_0 [7, 8, 9])
def b_walked_2 : CS :=
    (sSeq (sIf (tVal (c2 opIsN (cVar 7) (cC .non)))
    (sRet (cTup (cCons (cC .non) (cCons (cTup (cCons (cC (.str "stuck")) (cCons (c2 opIx (cVar 3) (cVar 6)) cNil))) cNil))))
    sNil)
    b_walked_1)
def b_walked_3 : CS :=
    (sSeq (sSet 7 (cApp m_steps_of (cCons (cVar 0) (cCons (cVar 1) (cCons (cVar 6) (cCons (c2 opIx (cVar 2) (cVar 6)) cNil))))))
    b_walked_2)
def b_walked_4 : CS :=
    (sSeq (sSet 5 (c2 opAdd (cVar 5) (cC (.int 1))))
    b_walked_3)
def b_walked_5 : CS :=
    (sSeq (sSet 6 (c2 opIx (cVar 4) (cVar 5)))
    b_walked_4)
def b_walked_6 : CS :=
    (sRet (cTup (cCons (cVar 2) (cCons (cC .non) cNil))))
def b_walked_7 : CS :=
    (sSeq (sWhile 100 (tVal (c2 opLt (cVar 5) (cApp opLen (cCons (cVar 4) cNil))))
    b_walked_5 [6, 7, 8, 9])
    b_walked_6)
def b_walked_8 : CS :=
    (sSeq (sSet 5 (cC (.int 0)))
    b_walked_7)
def b_walked_9 : CS :=
    (sSeq (sSet 4 (cLstN (cCons (cC (.int 0)) cNil)))
    b_walked_8)
def b_walked_10 : CS :=
    (sSeq (sSet 3 (cDicN [((cC (.int 0)), (cTup (cCons (cC (.int 0)) cNil)))]))
    b_walked_9)
/-- walked(part, function): slots 0 part, 1 function, 2 found, 3 paths, 4 queue, 5 at, 6 place, 7 steps, 8 later, 9 stack -/
def b_walked : CS :=
    (sSeq (sSet 2 (cDicN [((cC (.int 0)), (cTup cNil))]))
    b_walked_10)
def m_walked : List A → M A := pureF (runBody 10 b_walked)
/-- least_map(part, function): slots 0 part, 1 function -/
def b_least_map : CS :=
    (sRet (c2 opIx (cApp m_walked (cCons (cVar 0) (cCons (cVar 1) cNil))) (cC (.int 0))))
def m_least_map : List A → M A := pureF (runBody 2 b_least_map)
/-- fault_paper(part, function): slots 0 part, 1 function -/
def b_fault_paper : CS :=
    (sRet (c2 opIx (cApp m_walked (cCons (cVar 0) (cCons (cVar 1) cNil))) (cC (.int 1))))
def m_fault_paper : List A → M A := pureF (runBody 2 b_fault_paper)
def b_stack_along_0 : CS :=
    (sSet 3 (c2 opIx (cVar 6) (cC (.int 0))))
def b_stack_along_1 : CS :=
    (sSeq (sIf (tVal (c2 opEq (cApp opLen (cCons (cVar 6) cNil)) (cC (.int 0))))
    (sRet (cC .non))
    sNil)
    b_stack_along_0)
def b_stack_along_2 : CS :=
    (sSeq (sSet 6 (cLc (cItF (cVar 5)) [7, 8] (gT ([7, 8].map gN)) (tVal (c2 opEq (cVar 7) (c2 opIx (cVar 2) (c2 opAdd (cVar 4) (cC (.int 1)))))) (cVar 8)))
    b_stack_along_1)
def b_stack_along_3 : CS :=
    (sSeq (sIf (tVal (c2 opIsN (cVar 5) (cC .non)))
    (sRet (cC .non))
    sNil)
    b_stack_along_2)
def b_stack_along_4 : CS :=
    (sSeq (sSet 5 (cApp m_steps_of (cCons (cVar 0) (cCons (cVar 1) (cCons (c2 opIx (cVar 2) (cVar 4)) (cCons (cVar 3) cNil))))))
    b_stack_along_3)
def b_stack_along_5 : CS :=
    (sRet (cVar 3))
def b_stack_along_6 : CS :=
    (sSeq (sFor (cItR1 (c2 opSub (cApp opLen (cCons (cVar 2) cNil)) (cC (.int 1)))) (gN 4)
    b_stack_along_4 [4, 5, 6, 7, 8])
    b_stack_along_5)
def b_stack_along_7 : CS :=
    (sSeq (sSet 3 (cTup cNil))
    b_stack_along_6)
/-- stack_along(part, function, path): slots 0 part, 1 function, 2 path, 3 stack, 4 k, 5 steps, 6 behind, 7 place, 8 later -/
def b_stack_along : CS :=
    (sSeq (sIf (tOr (tVal (c2 opEq (cApp opLen (cCons (cVar 2) cNil)) (cC (.int 0)))) (tVal (c2 opNe (c2 opIx (cVar 2) (cC (.int 0))) (cC (.int 0)))))
    (sRet (cC .non))
    sNil)
    b_stack_along_7)
def m_stack_along : List A → M A := pureF (runBody 9 b_stack_along)
def b_shows_fault_0 : CS :=
    (sRet (cAnd (c2 opNotN (cVar 4) (cC .non)) (cAnd (c2 opEq (c2 opIx (c2 opIx (cVar 2) (cC (.int 1))) (c1 opNeg (cC (.int 1)))) (c2 opIx (c2 opIx (cVar 2) (cC (.int 2))) (c1 opNeg (cC (.int 1))))) (c2 opNe (cVar 3) (cVar 4)))))
def b_shows_fault_1 : CS :=
    (sSeq (sSet 4 (cApp m_stack_along (cCons (cVar 0) (cCons (cVar 1) (cCons (c2 opIx (cVar 2) (cC (.int 2))) cNil)))))
    b_shows_fault_0)
def b_shows_fault_2 : CS :=
    (sSeq (sIf (tOr (tVal (c2 opNe (c2 opIx (cVar 2) (cC (.int 0))) (cC (.str "apart")))) (tVal (c2 opNe (cApp opLen (cCons (cVar 2) cNil)) (cC (.int 3)))))
    (sRet (cC (.bl false)))
    sNil)
    b_shows_fault_1)
def b_shows_fault_3 : CS :=
    (sSeq (sIf (tVal (c2 opEq (c2 opIx (cVar 2) (cC (.int 0))) (cC (.str "stuck"))))
    (sRet (cAnd (c2 opEq (cApp opLen (cCons (cVar 2) cNil)) (cC (.int 2))) (c2 opIsN (cApp m_steps_of (cCons (cVar 0) (cCons (cVar 1) (cCons (c2 opIx (c2 opIx (cVar 2) (cC (.int 1))) (c1 opNeg (cC (.int 1)))) (cCons (cVar 3) cNil))))) (cC .non))))
    sNil)
    b_shows_fault_2)
def b_shows_fault_4 : CS :=
    (sSeq (sIf (tVal (c2 opIsN (cVar 3) (cC .non)))
    (sRet (cC (.bl false)))
    sNil)
    b_shows_fault_3)
/-- shows_fault(part, function, paper): slots 0 part, 1 function, 2 paper, 3 stack, 4 other -/
def b_shows_fault : CS :=
    (sSeq (sSet 3 (cApp m_stack_along (cCons (cVar 0) (cCons (cVar 1) (cCons (c2 opIx (cVar 2) (cC (.int 1))) cNil)))))
    b_shows_fault_4)
def m_shows_fault : List A → M A := pureF (runBody 5 b_shows_fault)
/-- is_accepted(part): slots 0 part, 1 function -/
def b_is_accepted : CS :=
    (sRet (cAnd (cApp m_is_part (cCons (cVar 0) cNil)) (c2 opEq (cApp opLen (cCons (cLc (cItF (c2 opIx (cVar 0) (cC (.int 3)))) [1] (gN 1) (tVal (c2 opIsN (cApp m_least_map (cCons (cVar 0) (cCons (cVar 1) cNil))) (cC .non))) (cC (.int 1))) cNil)) (cC (.int 0)))))
def m_is_accepted : List A → M A := pureF (runBody 2 b_is_accepted)
def b_law_deal_0 : CS :=
    (sIf (tVal (c2 opGt (cVar 3) (cC (.int 0))))
    (sSeq (sExp (cMt "list" opApp (cVar 1) (cCons (c2 opMod (cVar 3) (cC (.int 1009))) cNil)))
    (sSet 3 (c2 opDiv (cVar 3) (cC (.int 1009)))))
    sNil)
def b_law_deal_1 : CS :=
    (sExp (cMt "list" opApp (cVar 1) (cCons (c2 opMod (c2 opDiv (cVar 3) (cC (.int 7))) (cC (.int 1009))) cNil)))
def b_law_deal_2 : CS :=
    (sSeq (sSet 3 (c2 opMod (c2 opAdd (c2 opAdd (c2 opMul (cVar 3) (cC (.int 16807))) (cC (.int 12345))) (cVar 4)) (cC (.int 2147483647))))
    b_law_deal_1)
def b_law_deal_3 : CS :=
    (sIf (tVal (c2 opGe (cVar 3) (c2 opPow (cC (.int 10)) (cC (.int 18)))))
    (sFor (cItR1 (cC (.int 40))) (gN 4)
    b_law_deal_0 [2, 4, 5])
    (sSeq (sSet 3 (c2 opAdd (c2 opAdd (c2 opMul (c2 opMod (cVar 3) (cC (.int 2147483629))) (cC (.int 48271))) (c2 opMul (cVar 2) (cC (.int 69621)))) (cC (.int 11))))
    (sFor (cItR1 (cC (.int 5))) (gN 4)
    b_law_deal_2 [2, 4, 5])))
def b_law_deal_4 : CS :=
    (sSeq (sSet 3 (cApp opAbs (cCons (cApp opInt (cCons (c2 opIx (cVar 0) (cVar 2)) cNil)) cNil)))
    b_law_deal_3)
def b_law_deal_5 : CS :=
    (sRet (cLst (cCons (cVar 1) (cCons (cLstN (cCons (cC (.int 0)) cNil)) (cCons (cVar 5) cNil)))))
def b_law_deal_6 : CS :=
    (sSeq (sSet 5 (c2 opAdd (cApp opSum (cCons (cVar 1) cNil)) (cApp opLen (cCons (cVar 0) cNil))))
    b_law_deal_5)
def b_law_deal_7 : CS :=
    (sSeq (sFor (cItR1 (cApp opMin2 (cCons (cApp opLen (cCons (cVar 0) cNil)) (cCons (cC (.int 63)) cNil)))) (gN 2)
    b_law_deal_4 [2, 3, 4, 5])
    b_law_deal_6)
/-- _law_deal(script): slots 0 script, 1 row, 2 k, 3 cell, 4 turn, 5 total -/
def b_law_deal : CS :=
    (sSeq (sSet 1 (cLstN cNil))
    b_law_deal_7)
def m_law_deal : List A → M A := (runBody 6 b_law_deal)
def b_law_take_0 : CS :=
    (sRet (c2 opMod (c2 opDiv (c2 opAdd (c2 opAdd (c2 opMul (cVar 2) (cC (.int 7919))) (c2 opMul (c2 opIx (cVar 0) (cC (.int 2))) (cC (.int 31)))) (c2 opMul (c2 opMul (cVar 2) (cVar 2)) (cC (.int 17)))) (cC (.int 3))) (cVar 1)))
def b_law_take_1 : CS :=
    (sSeq (sIf (tVal (c2 opLt (cVar 2) (cApp opLen (cCons (c2 opIx (cVar 0) (cC (.int 0))) cNil))))
    (sRet (c2 opMod (c2 opIx (c2 opIx (cVar 0) (cC (.int 0))) (cVar 2)) (cVar 1)))
    sNil)
    b_law_take_0)
def b_law_take_2 : CS :=
    (sSeq (sAsg (c2 opAdd (cVar 2) (cC (.int 1))) (gSub (c2 opIx (cVar 0) (cC (.int 1))) (cC (.int 0)) opSet))
    b_law_take_1)
/-- _law_take(deal, many): slots 0 deal, 1 many, 2 at -/
def b_law_take : CS :=
    (sSeq (sSet 2 (c2 opIx (c2 opIx (cVar 0) (cC (.int 1))) (cC (.int 0))))
    b_law_take_2)
def m_law_take : List A → M A := (runBody 3 b_law_take)
/-- _law_same(a, b): slots 0 a, 1 b, 2 k -/
def m_law_same : Nat → List A → M A
  | 0 => fun _ => bad
  | n + 1 => pureF (runBody 3
    (sSeq (sIf (tOr (tVal (c1 (opIsi "tuple") (cVar 1))) (tVal (c1 (opIsi "list") (cVar 1))))
    (sSeq (sIf (tOr (tAnd (tVal (c1 (opIsi "tuple") (cVar 1))) (tNot (tVal (c1 (opIsi "tuple") (cVar 0))))) (tAnd (tVal (c1 (opIsi "list") (cVar 1))) (tNot (tVal (c1 (opIsi "list") (cVar 0))))))
    (sRet (cC (.bl false)))
    sNil)
    (sSeq (sIf (tVal (c2 opNe (cApp opLen (cCons (cVar 0) cNil)) (cApp opLen (cCons (cVar 1) cNil))))
    (sRet (cC (.bl false)))
    sNil)
    (sSeq (sFor (cItR1 (cApp opLen (cCons (cVar 1) cNil))) (gN 2)
    (sIf (tNot (tVal (cApp (m_law_same n) (cCons (c2 opIx (cVar 0) (cVar 2)) (cCons (c2 opIx (cVar 1) (cVar 2)) cNil)))))
    (sRet (cC (.bl false)))
    sNil) [2])
    (sRet (cC (.bl true))))))
    sNil)
    (sSeq (sIf (tOr (tVal (c1 (opIsi "bool") (cVar 0))) (tVal (c1 (opIsi "bool") (cVar 1))))
    (sRet (cAnd (c1 (opIsi "bool") (cVar 0)) (cAnd (c1 (opIsi "bool") (cVar 1)) (c2 opEq (cVar 0) (cVar 1)))))
    sNil)
    (sSeq (sIf (tVal (c1 (opIsi "int") (cVar 1)))
    (sRet (cAnd (c1 (opIsi "int") (cVar 0)) (c2 opEq (cVar 0) (cVar 1))))
    sNil)
    (sSeq (sIf (tVal (c1 (opIsi "str") (cVar 1)))
    (sRet (cAnd (c1 (opIsi "str") (cVar 0)) (c2 opEq (cVar 0) (cVar 1))))
    sNil)
    (sRet (cAnd (c2 opIsN (cVar 0) (cC .non)) (c2 opIsN (cVar 1) (cC .non)))))))))
/-- _law_bool(answer, due): slots 0 answer, 1 due -/
def b_law_bool : CS :=
    (sRet (cAnd (c1 (opIsi "bool") (cVar 0)) (c2 opEq (cVar 0) (cVar 1))))
def m_law_bool : List A → M A := pureF (runBody 2 b_law_bool)
/-- _law_pick(deal, things): slots 0 deal, 1 things -/
def b_law_pick : CS :=
    (sRet (c2 opIx (cVar 1) (cApp m_law_take (cCons (cVar 0) (cCons (cApp opLen (cCons (cVar 1) cNil)) cNil)))))
def m_law_pick : List A → M A := (runBody 2 b_law_pick)
/-- _law_word(deal): slots 0 deal -/
def b_law_word : CS :=
    (sRet (cApp m_law_pick (cCons (cVar 0) (cCons (cLst (cCons (cC (.int 0)) (cCons (cC (.int 1)) (cCons (cC (.int 2)) (cCons (cC (.int 3)) (cCons (c1 opNeg (cC (.int 1))) (cCons (cC (.int 7)) (cCons (c1 opNeg (cC (.int 5))) (cCons (cC (.int 100)) (cCons (cC (.int 2147483647)) (cCons (c1 opNeg (cC (.int 2147483648))) cNil))))))))))) cNil))))
def m_law_word : List A → M A := (runBody 1 b_law_word)
/-- _law_expr(deal, depth, slots): slots 0 deal, 1 depth, 2 slots, 3 choice, 4 word -/
def m_law_expr : Nat → List A → M A
  | 0 => fun _ => bad
  | n + 1 => (runBody 5
    (sSeq (sSet 3 (cApp m_law_take (cCons (cVar 0) (cCons (cC (.int 6)) cNil))))
    (sSeq (sIf (tOr (tVal (c2 opEq (cVar 1) (cC (.int 0)))) (tVal (c2 opEq (cVar 3) (cC (.int 0)))))
    (sRet (cIf (tVal (c2 opEq (cApp m_law_take (cCons (cVar 0) (cCons (cC (.int 2)) cNil))) (cC (.int 0)))) (cTup (cCons (cC (.str "num")) (cCons (cApp m_law_word (cCons (cVar 0) cNil)) cNil))) (cTup (cCons (cC (.str "var")) (cCons (cApp m_law_take (cCons (cVar 0) (cCons (cVar 2) cNil))) cNil)))))
    sNil)
    (sSeq (sIf (tAnd (tVal (c2 opEq (cVar 3) (cC (.int 5)))) (tVal (c2 opGt (cVar 2) (cC (.int 2)))))
    (sRet (cTup (cCons (cC (.str "call")) (cCons (cApp (m_law_expr n) (cCons (cVar 0) (cCons (c2 opSub (cVar 1) (cC (.int 1))) (cCons (cVar 2) cNil)))) (cCons (cApp (m_law_expr n) (cCons (cVar 0) (cCons (cC (.int 0)) (cCons (cVar 2) cNil)))) cNil)))))
    sNil)
    (sSeq (sSet 4 (cApp m_law_pick (cCons (cVar 0) (cCons (cLst (cCons (cC (.str "add")) (cCons (cC (.str "sub")) (cCons (cC (.str "mul")) (cCons (cC (.str "div")) (cCons (cC (.str "less")) (cCons (cC (.str "same")) cNil))))))) cNil))))
    (sRet (cTup (cCons (cC (.str "bin")) (cCons (cVar 4) (cCons (cApp (m_law_expr n) (cCons (cVar 0) (cCons (c2 opSub (cVar 1) (cC (.int 1))) (cCons (cVar 2) cNil)))) (cCons (cApp (m_law_expr n) (cCons (cVar 0) (cCons (c2 opSub (cVar 1) (cC (.int 1))) (cCons (cVar 2) cNil)))) cNil)))))))))))
/-- _law_statement(deal, depth): slots 0 deal, 1 depth, 2 choice, 3 word, 4 inner, 5 k -/
def m_law_statement : Nat → List A → M A
  | 0 => fun _ => bad
  | n + 1 => (runBody 6
    (sSeq (sSet 2 (cApp m_law_take (cCons (cVar 0) (cCons (cC (.int 10)) cNil))))
    (sSeq (sIf (tAnd (tVal (c2 opLt (cVar 2) (cC (.int 2)))) (tVal (c2 opGt (cVar 1) (cC (.int 0)))))
    (sSeq (sSet 3 (cIf (tVal (c2 opEq (cVar 2) (cC (.int 0)))) (cC (.str "if")) (cC (.str "loop"))))
    (sSeq (sSet 4 (cLc (cItR1 (c2 opAdd (cC (.int 1)) (cApp m_law_take (cCons (cVar 0) (cCons (cC (.int 2)) cNil))))) [5] (gN 5) cYes (cApp (m_law_statement n) (cCons (cVar 0) (cCons (c2 opSub (cVar 1) (cC (.int 1))) cNil)))))
    (sRet (cTup (cCons (cVar 3) (cCons (cIf (tVal (c2 opEq (cVar 2) (cC (.int 0)))) (cApp (m_law_expr 4) (cCons (cVar 0) (cCons (cC (.int 1)) (cCons (cC (.int 4)) cNil)))) (cTup (cCons (cC (.str "num")) (cCons (c2 opAdd (cC (.int 1)) (cApp m_law_take (cCons (cVar 0) (cCons (cC (.int 3)) cNil)))) cNil)))) (cCons (cVar 4) cNil)))))))
    sNil)
    (sSeq (sIf (tVal (c2 opLt (cVar 2) (cC (.int 4))))
    (sRet (cTup (cCons (cC (.str "set")) (cCons (cApp m_law_take (cCons (cVar 0) (cCons (cC (.int 4)) cNil))) (cCons (cApp (m_law_expr 4) (cCons (cVar 0) (cCons (c2 opAdd (cC (.int 1)) (cApp m_law_take (cCons (cVar 0) (cCons (cC (.int 2)) cNil)))) (cCons (cC (.int 4)) cNil)))) cNil)))))
    sNil)
    (sSeq (sIf (tVal (c2 opLt (cVar 2) (cC (.int 7))))
    (sRet (cTup (cCons (cC (.str "say")) (cCons (cApp (m_law_expr 4) (cCons (cVar 0) (cCons (c2 opAdd (cC (.int 1)) (cApp m_law_take (cCons (cVar 0) (cCons (cC (.int 2)) cNil)))) (cCons (cC (.int 4)) cNil)))) cNil))))
    sNil)
    (sSeq (sIf (tVal (c2 opEq (cVar 2) (cC (.int 7))))
    (sRet (cTup (cCons (cC (.str "make")) (cCons (cApp (m_law_expr 4) (cCons (cVar 0) (cCons (cC (.int 1)) (cCons (cC (.int 4)) cNil)))) cNil))))
    sNil)
    (sRet (cTup (cCons (c2 opIx (cLst (cCons (cC (.str "first")) (cCons (cC (.str "cut")) cNil))) (c2 opSub (cVar 2) (cC (.int 8)))) cNil)))))))))
/-- _law_code(e): slots 0 e -/
def m_law_code : Nat → List A → M A
  | 0 => fun _ => bad
  | n + 1 => pureF (runBody 1
    (sSeq (sIf (tVal (c2 opEq (c2 opIx (cVar 0) (cC (.int 0))) (cC (.str "num"))))
    (sRet (cLst (cCons (cTup (cCons (cC (.str "push")) (cCons (c2 opIx (cVar 0) (cC (.int 1))) cNil))) cNil)))
    sNil)
    (sSeq (sIf (tVal (c2 opEq (c2 opIx (cVar 0) (cC (.int 0))) (cC (.str "var"))))
    (sRet (cLst (cCons (cTup (cCons (cC (.str "load")) (cCons (c2 opIx (cVar 0) (cC (.int 1))) cNil))) cNil)))
    sNil)
    (sSeq (sIf (tVal (c2 opEq (c2 opIx (cVar 0) (cC (.int 0))) (cC (.str "call"))))
    (sRet (c2 opAdd (c2 opAdd (cApp (m_law_code n) (cCons (c2 opIx (cVar 0) (cC (.int 1))) cNil)) (cApp (m_law_code n) (cCons (c2 opIx (cVar 0) (cC (.int 2))) cNil))) (cLst (cCons (cTup (cCons (cC (.str "call")) (cCons (cC (.str "lib.f")) cNil))) cNil))))
    sNil)
    (sRet (c2 opAdd (c2 opAdd (cApp (m_law_code n) (cCons (c2 opIx (cVar 0) (cC (.int 2))) cNil)) (cApp (m_law_code n) (cCons (c2 opIx (cVar 0) (cC (.int 3))) cNil))) (cLst (cCons (cTup (cCons (c2 opIx (cVar 0) (cC (.int 1))) cNil)) cNil))))))))
mutual
/-- _law_statement_code(s, at): slots 0 s, 1 at, 2 head, 3 inner, 4 end, 5 top, 6 back -/
def m_law_statement_code : Nat → List A → M A
  | 0 => fun _ => bad
  | n + 1 => pureF (runBody 7
    (sSeq (sIf (tVal (c2 opEq (c2 opIx (cVar 0) (cC (.int 0))) (cC (.str "set"))))
    (sRet (c2 opAdd (cApp (m_law_code 5) (cCons (c2 opIx (cVar 0) (cC (.int 2))) cNil)) (cLst (cCons (cTup (cCons (cC (.str "store")) (cCons (c2 opIx (cVar 0) (cC (.int 1))) cNil))) cNil))))
    sNil)
    (sSeq (sIf (tVal (c2 opEq (c2 opIx (cVar 0) (cC (.int 0))) (cC (.str "say"))))
    (sRet (c2 opAdd (cApp (m_law_code 5) (cCons (c2 opIx (cVar 0) (cC (.int 1))) cNil)) (cLst (cCons (cTup (cCons (cC (.str "say")) cNil)) cNil))))
    sNil)
    (sSeq (sIf (tVal (c2 opEq (c2 opIx (cVar 0) (cC (.int 0))) (cC (.str "make"))))
    (sRet (c2 opAdd (cApp (m_law_code 5) (cCons (c2 opIx (cVar 0) (cC (.int 1))) cNil)) (cLst (cCons (cTup (cCons (cC (.str "load")) (cCons (cC (.int 4)) cNil))) (cCons (cTup (cCons (cC (.str "call")) (cCons (cC (.str "lib.pair2")) cNil))) (cCons (cTup (cCons (cC (.str "store")) (cCons (cC (.int 4)) cNil))) cNil))))))
    sNil)
    (sSeq (sIf (tVal (c2 opEq (c2 opIx (cVar 0) (cC (.int 0))) (cC (.str "first"))))
    (sRet (cLst (cCons (cTup (cCons (cC (.str "load")) (cCons (cC (.int 4)) cNil))) (cCons (cTup (cCons (cC (.str "get")) (cCons (cC (.str "lib.pair")) (cCons (cC (.int 0)) cNil)))) (cCons (cTup (cCons (cC (.str "say")) cNil)) cNil)))))
    sNil)
    (sSeq (sIf (tVal (c2 opEq (c2 opIx (cVar 0) (cC (.int 0))) (cC (.str "cut"))))
    (sRet (cLst (cCons (cTup (cCons (cC (.str "load")) (cCons (cC (.int 4)) cNil))) (cCons (cTup (cCons (cC (.str "get")) (cCons (cC (.str "lib.pair")) (cCons (cC (.int 1)) cNil)))) (cCons (cTup (cCons (cC (.str "store")) (cCons (cC (.int 4)) cNil))) cNil)))))
    sNil)
    (sSeq (sSet 2 (cApp (m_law_code 5) (cCons (c2 opIx (cVar 0) (cC (.int 1))) cNil)))
    (sSeq (sIf (tVal (c2 opEq (c2 opIx (cVar 0) (cC (.int 0))) (cC (.str "if"))))
    (sSeq (sSet 3 (cApp (m_law_body_code n) (cCons (c2 opIx (cVar 0) (cC (.int 2))) (cCons (c2 opAdd (c2 opAdd (cVar 1) (cApp opLen (cCons (cVar 2) cNil))) (cC (.int 2))) cNil))))
    (sSeq (sSet 4 (c2 opAdd (c2 opAdd (c2 opAdd (cVar 1) (cApp opLen (cCons (cVar 2) cNil))) (cC (.int 2))) (cApp opLen (cCons (cVar 3) cNil))))
    (sRet (c2 opAdd (c2 opAdd (cVar 2) (cLst (cCons (cTup (cCons (cC (.str "branch")) (cCons (c2 opAdd (c2 opAdd (cVar 1) (cApp opLen (cCons (cVar 2) cNil))) (cC (.int 2))) cNil))) (cCons (cTup (cCons (cC (.str "jump")) (cCons (cVar 4) cNil))) cNil)))) (cVar 3)))))
    sNil)
    (sSeq (sSet 2 (c2 opAdd (cVar 2) (cLst (cCons (cTup (cCons (cC (.str "store")) (cCons (cC (.int 5)) cNil))) cNil))))
    (sSeq (sSet 5 (c2 opAdd (cVar 1) (cApp opLen (cCons (cVar 2) cNil))))
    (sSeq (sSet 3 (cApp (m_law_body_code n) (cCons (c2 opIx (cVar 0) (cC (.int 2))) (cCons (c2 opAdd (cVar 5) (cC (.int 3))) cNil))))
    (sSeq (sSet 6 (cLst (cCons (cTup (cCons (cC (.str "load")) (cCons (cC (.int 5)) cNil))) (cCons (cTup (cCons (cC (.str "push")) (cCons (cC (.int 1)) cNil))) (cCons (cTup (cCons (cC (.str "sub")) cNil)) (cCons (cTup (cCons (cC (.str "store")) (cCons (cC (.int 5)) cNil))) (cCons (cTup (cCons (cC (.str "jump")) (cCons (cVar 5) cNil))) cNil)))))))
    (sSeq (sSet 4 (c2 opAdd (c2 opAdd (c2 opAdd (cVar 5) (cC (.int 3))) (cApp opLen (cCons (cVar 3) cNil))) (cApp opLen (cCons (cVar 6) cNil))))
    (sRet (c2 opAdd (c2 opAdd (c2 opAdd (cVar 2) (cLst (cCons (cTup (cCons (cC (.str "load")) (cCons (cC (.int 5)) cNil))) (cCons (cTup (cCons (cC (.str "branch")) (cCons (c2 opAdd (cVar 5) (cC (.int 3))) cNil))) (cCons (cTup (cCons (cC (.str "jump")) (cCons (cVar 4) cNil))) cNil))))) (cVar 3)) (cVar 6))))))))))))))))
/-- _law_body_code(body, at): slots 0 body, 1 at, 2 code, 3 s -/
def m_law_body_code : Nat → List A → M A
  | 0 => fun _ => bad
  | n + 1 => pureF (runBody 4
    (sSeq (sSet 2 (cLst cNil))
    (sSeq (sFor (cItF (cVar 0)) (gN 3)
    (sSet 2 (c2 opAdd (cVar 2) (cApp (m_law_statement_code n) (cCons (cVar 3) (cCons (c2 opAdd (cVar 1) (cApp opLen (cCons (cVar 2) cNil))) cNil))))) [0, 3])
    (sRet (cVar 2)))))
end
/-- _law_main_code(tree): slots 0 tree -/
def b_law_main_code : CS :=
    (sRet (c2 opAdd (c2 opAdd (cApp (m_law_body_code 6) (cCons (c2 opIx (cVar 0) (cC (.int 1))) (cCons (cC (.int 0)) cNil))) (cApp (m_law_code 5) (cCons (c2 opIx (cVar 0) (cC (.int 2))) cNil))) (cLst (cCons (cTup (cCons (cC (.str "return")) cNil)) cNil))))
def m_law_main_code : List A → M A := pureF (runBody 1 b_law_main_code)
def b_law_tree_0 : CS :=
    (sIf (tVal (c2 opGt (cApp opLen (cCons (cApp m_law_main_code (cCons (cVar 2) cNil)) cNil)) (cC (.int 58))))
    (sSet 2 (cTup (cCons (c2 opIx (cVar 2) (cC (.int 0))) (cCons (cSl (c2 opIx (cVar 2) (cC (.int 1))) pNo (pSome (c1 opNeg (cC (.int 1))))) (cCons (c2 opIx (cVar 2) (cC (.int 2))) cNil)))))
    sNil)
def b_law_tree_1 : CS :=
    (sRet (cVar 2))
def b_law_tree_2 : CS :=
    (sSeq (sFor (cItR1 (cC (.int 6))) (gN 3)
    b_law_tree_0 [0, 1, 3, 4])
    b_law_tree_1)
def b_law_tree_3 : CS :=
    (sSeq (sSet 2 (cTup (cCons (cApp (m_law_expr 4) (cCons (cVar 0) (cCons (cC (.int 2)) (cCons (cC (.int 2)) cNil)))) (cCons (cVar 1) (cCons (cApp (m_law_expr 4) (cCons (cVar 0) (cCons (cC (.int 1)) (cCons (cC (.int 4)) cNil)))) cNil)))))
    b_law_tree_2)
/-- _law_tree(deal): slots 0 deal, 1 body, 2 tree, 3 turn, 4 k -/
def b_law_tree : CS :=
    (sSeq (sSet 1 (cLc (cItR1 (c2 opAdd (cC (.int 1)) (cApp m_law_take (cCons (cVar 0) (cCons (cC (.int 4)) cNil))))) [4] (gN 4) cYes (cApp (m_law_statement 3) (cCons (cVar 0) (cCons (cC (.int 1)) cNil)))))
    b_law_tree_3)
def m_law_tree : List A → M A := (runBody 5 b_law_tree)
def b_law_parts_0 : CS :=
    (sRet (cTup (cCons (cVar 5) (cCons (cTup (cCons (cC (.str "main")) (cCons (cTup cNil) (cCons (cVar 6) (cCons (cTup (cCons (cVar 7) cNil)) (cCons (cTup (cCons (cC (.str "go")) cNil)) cNil)))))) cNil))))
def b_law_parts_1 : CS :=
    (sSeq (sSet 7 (cTup (cCons (cC (.str "go")) (cCons (cTup (cCons (cC (.str "int")) (cCons (cC (.str "int")) cNil))) (cCons (cC (.str "int")) (cCons (cTup (cCons (cC (.str "int")) (cCons (cC (.str "int")) (cCons (cC (.str "lib.pair")) (cCons (cC (.str "int")) cNil))))) (cCons (cApp opTup (cCons (cApp m_law_main_code (cCons (cVar 0) cNil)) cNil)) cNil)))))))
    b_law_parts_0)
def b_law_parts_2 : CS :=
    (sSeq (sSet 6 (cTup (cCons (cTup (cCons (cC (.str "rec")) (cCons (cC (.str "lib.pair")) (cCons (c2 opIx (cVar 1) (cC (.int 1))) cNil)))) (cCons (cTup (cCons (cC (.str "fun")) (cCons (cC (.str "lib.f")) (cCons (cTup (cCons (cC (.str "int")) (cCons (cC (.str "int")) cNil))) (cCons (cC (.str "int")) cNil))))) (cCons (cTup (cCons (cC (.str "fun")) (cCons (cC (.str "lib.pair2")) (cCons (cTup (cCons (cC (.str "int")) (cCons (cC (.str "lib.pair")) cNil))) (cCons (cC (.str "lib.pair")) cNil))))) cNil)))))
    b_law_parts_1)
def b_law_parts_3 : CS :=
    (sSeq (sSet 5 (cTup (cCons (cC (.str "lib")) (cCons (cTup (cCons (cTup (cCons (cC (.str "pair")) (cCons (c2 opIx (cVar 1) (cC (.int 1))) cNil))) cNil)) (cCons (cTup cNil) (cCons (cTup (cCons (cVar 3) (cCons (cVar 4) cNil))) (cCons (cTup (cCons (cC (.str "f")) (cCons (cC (.str "pair")) (cCons (cC (.str "pair2")) cNil)))) cNil)))))))
    b_law_parts_2)
def b_law_parts_4 : CS :=
    (sSeq (sSet 4 (cTup (cCons (cC (.str "pair2")) (cCons (cTup (cCons (cC (.str "int")) (cCons (cC (.str "lib.pair")) cNil))) (cCons (cC (.str "lib.pair")) (cCons (cTup (cCons (cC (.str "lib.pair")) cNil)) (cCons (cVar 2) cNil)))))))
    b_law_parts_3)
def b_law_parts_5 : CS :=
    (sSeq (sSet 3 (cTup (cCons (cC (.str "f")) (cCons (cTup (cCons (cC (.str "int")) (cCons (cC (.str "int")) cNil))) (cCons (cC (.str "int")) (cCons (cTup cNil) (cCons (cApp opTup (cCons (c2 opAdd (cApp (m_law_code 5) (cCons (c2 opIx (cVar 0) (cC (.int 0))) cNil)) (cLst (cCons (cTup (cCons (cC (.str "return")) cNil)) cNil))) cNil)) cNil)))))))
    b_law_parts_4)
def b_law_parts_6 : CS :=
    (sSeq (sSet 2 (cApp opTup (cCons (c2 opAdd (cVar 2) (cLst (cCons (cTup (cCons (cC (.str "set")) (cCons (cC (.str "lib.pair")) (cCons (cC (.int 1)) cNil)))) (cCons (cTup (cCons (cC (.str "load")) (cCons (cC (.int 2)) cNil))) (cCons (cTup (cCons (cC (.str "return")) cNil)) cNil))))) cNil)))
    b_law_parts_5)
def b_law_parts_7 : CS :=
    (sSeq (sSet 2 (cLst (cCons (cTup (cCons (cC (.str "new")) (cCons (cC (.str "lib.pair")) cNil))) (cCons (cTup (cCons (cC (.str "store")) (cCons (cC (.int 2)) cNil))) (cCons (cTup (cCons (cC (.str "load")) (cCons (cC (.int 2)) cNil))) (cCons (cTup (cCons (cC (.str "load")) (cCons (cC (.int 0)) cNil))) (cCons (cTup (cCons (cC (.str "set")) (cCons (cC (.str "lib.pair")) (cCons (cC (.int 0)) cNil)))) (cCons (cTup (cCons (cC (.str "load")) (cCons (cC (.int 2)) cNil))) (cCons (cTup (cCons (cC (.str "load")) (cCons (cC (.int 1)) cNil))) cNil)))))))))
    b_law_parts_6)
/-- _law_parts(tree): slots 0 tree, 1 pair, 2 two, 3 f, 4 pair2, 5 lib, 6 uses, 7 go -/
def b_law_parts : CS :=
    (sSeq (sSet 1 (cTup (cCons (cC (.str "lib.pair")) (cCons (cTup (cCons (cC (.str "int")) (cCons (cC (.str "lib.pair")) cNil))) cNil))))
    b_law_parts_7)
def m_law_parts : List A → M A := pureF (runBody 8 b_law_parts)
def b_law_drawn_0 : CS :=
    (sRet (cTup (cCons (cApp m_law_pick (cCons (cVar 0) (cCons (cLst (cCons (cC (.str "add")) (cCons (cC (.str "less")) (cCons (cC (.str "drop")) (cCons (cC (.str "dup")) (cCons (cC (.str "return")) (cCons (cC (.str "say")) (cCons (cC (.str "row")) (cCons (cC (.str "at")) (cCons (cC (.str "put")) (cCons (cC (.str "size")) (cCons (cC (.str "isnil")) (cCons (cC (.str "alike")) (cCons (cC (.str "trap")) (cCons (cC (.str "drop")) cNil))))))))))))))) cNil))) cNil)))
def b_law_drawn_1 : CS :=
    (sSeq (sIf (tVal (c2 opEq (cVar 2) (cC (.int 7))))
    (sRet (cApp m_law_pick (cCons (cVar 0) (cCons (cLst (cCons (cTup (cCons (cC (.str "new")) (cCons (cC (.str "lib.pair")) cNil))) (cCons (cTup (cCons (cC (.str "nil")) (cCons (cC (.str "lib.pair")) cNil))) (cCons (cTup (cCons (cC (.str "nil")) (cCons (cC (.str "ints")) cNil))) (cCons (cTup (cCons (cC (.str "call")) (cCons (cC (.str "lib.f")) cNil))) (cCons (cTup (cCons (cC (.str "call")) (cCons (cC (.str "lib.pair2")) cNil))) (cCons (cTup (cCons (cC (.str "new")) (cCons (cC (.str "lib.none")) cNil))) cNil))))))) cNil))))
    sNil)
    b_law_drawn_0)
def b_law_drawn_2 : CS :=
    (sSeq (sIf (tVal (c2 opEq (cVar 2) (cC (.int 6))))
    (sRet (cTup (cCons (cApp m_law_pick (cCons (cVar 0) (cCons (cLst (cCons (cC (.str "get")) (cCons (cC (.str "set")) cNil))) cNil))) (cCons (cC (.str "lib.pair")) (cCons (cApp m_law_take (cCons (cVar 0) (cCons (cC (.int 3)) cNil))) cNil)))))
    sNil)
    b_law_drawn_1)
def b_law_drawn_3 : CS :=
    (sSeq (sIf (tVal (c2 opEq (cVar 2) (cC (.int 5))))
    (sRet (cTup (cCons (cApp m_law_pick (cCons (cVar 0) (cCons (cLst (cCons (cC (.str "jump")) (cCons (cC (.str "branch")) cNil))) cNil))) (cCons (cApp m_law_take (cCons (cVar 0) (cCons (c2 opAdd (cVar 1) (cC (.int 1))) cNil))) cNil))))
    sNil)
    b_law_drawn_2)
def b_law_drawn_4 : CS :=
    (sSeq (sIf (tVal (c2 opLt (cVar 2) (cC (.int 5))))
    (sRet (cTup (cCons (cApp m_law_pick (cCons (cVar 0) (cCons (cLst (cCons (cC (.str "load")) (cCons (cC (.str "store")) cNil))) cNil))) (cCons (cApp m_law_take (cCons (cVar 0) (cCons (cC (.int 6)) cNil))) cNil))))
    sNil)
    b_law_drawn_3)
def b_law_drawn_5 : CS :=
    (sSeq (sIf (tVal (c2 opLt (cVar 2) (cC (.int 3))))
    (sRet (cTup (cCons (cC (.str "push")) (cCons (cApp m_law_word (cCons (cVar 0) cNil)) cNil))))
    sNil)
    b_law_drawn_4)
/-- _law_drawn(deal, size): slots 0 deal, 1 size, 2 choice -/
def b_law_drawn : CS :=
    (sSeq (sSet 2 (cApp m_law_take (cCons (cVar 0) (cCons (cC (.int 14)) cNil))))
    b_law_drawn_5)
def m_law_drawn : List A → M A := (runBody 3 b_law_drawn)
def b_law_function_0 : CS :=
    (sRet (cTup (cCons (cC (.str "go")) (cCons (cTup (cCons (cC (.str "int")) (cCons (cC (.str "int")) cNil))) (cCons (cC (.str "int")) (cCons (cTup (cCons (cC (.str "int")) (cCons (cC (.str "int")) (cCons (cC (.str "lib.pair")) (cCons (cC (.str "int")) cNil))))) (cCons (cApp opTup (cCons (cVar 2) cNil)) cNil)))))))
/-- _law_function(deal, tree): slots 0 deal, 1 tree, 2 code, 3 at, 4 size, 5 k -/
def b_law_function : CS :=
    (sSeq (sIf (tVal (c2 opEq (cApp m_law_take (cCons (cVar 0) (cCons (cC (.int 2)) cNil))) (cC (.int 0))))
    (sSeq (sSet 2 (cApp opListN (cCons (cApp m_law_main_code (cCons (cVar 1) cNil)) cNil)))
    (sSeq (sSet 3 (cApp m_law_take (cCons (cVar 0) (cCons (cApp opLen (cCons (cVar 2) cNil)) cNil))))
    (sAsg (cApp m_law_drawn (cCons (cVar 0) (cCons (cApp opLen (cCons (cVar 2) cNil)) cNil))) (gSub (cVar 2) (cVar 3) opSet))))
    (sSeq (sSet 4 (c2 opAdd (cC (.int 1)) (cApp m_law_take (cCons (cVar 0) (cCons (cC (.int 6)) cNil)))))
    (sSet 2 (c2 opAdd (cLc (cItR1 (cVar 4)) [5] (gN 5) cYes (cApp m_law_drawn (cCons (cVar 0) (cCons (cVar 4) cNil)))) (cLst (cCons (cTup (cCons (cC (.str "push")) (cCons (cC (.int 1)) cNil))) (cCons (cTup (cCons (cC (.str "return")) cNil)) cNil)))))))
    b_law_function_0)
def m_law_function : List A → M A := scopeF (runBody 6 b_law_function)
def dk_law_behind_0 : C := (cDic [((cC (.str "add")), (cLst (cCons (cC (.str "int")) (cCons (cC (.str "int")) cNil)))), ((cC (.str "sub")), (cLst (cCons (cC (.str "int")) (cCons (cC (.str "int")) cNil)))), ((cC (.str "mul")), (cLst (cCons (cC (.str "int")) (cCons (cC (.str "int")) cNil)))), ((cC (.str "div")), (cLst (cCons (cC (.str "int")) (cCons (cC (.str "int")) cNil)))), ((cC (.str "less")), (cLst (cCons (cC (.str "int")) (cCons (cC (.str "int")) cNil)))), ((cC (.str "same")), (cLst (cCons (cC (.str "int")) (cCons (cC (.str "int")) cNil))))])
def vdk_law_behind_0 : List (Key × A) := [((.inr "add" : Key), A.lst [A.str "int", A.str "int"]), ((.inr "sub" : Key), A.lst [A.str "int", A.str "int"]), ((.inr "mul" : Key), A.lst [A.str "int", A.str "int"]), ((.inr "div" : Key), A.lst [A.str "int", A.str "int"]), ((.inr "less" : Key), A.lst [A.str "int", A.str "int"]), ((.inr "same" : Key), A.lst [A.str "int", A.str "int"])]
@[simp] theorem dk_law_behind_0_ap (e : Slots) (S : Store) : dk_law_behind_0 e S = .ok (.dic vdk_law_behind_0) S := rfl
def dk_law_behind_1 : C := (cDic [((cC (.str "add")), (cLst (cCons (cC (.str "int")) cNil))), ((cC (.str "sub")), (cLst (cCons (cC (.str "int")) cNil))), ((cC (.str "mul")), (cLst (cCons (cC (.str "int")) cNil))), ((cC (.str "div")), (cLst (cCons (cC (.str "int")) cNil))), ((cC (.str "less")), (cLst (cCons (cC (.str "int")) cNil))), ((cC (.str "same")), (cLst (cCons (cC (.str "int")) cNil))), ((cC (.str "push")), (cLst (cCons (cC (.str "int")) cNil))), ((cC (.str "row")), (cLst (cCons (cC (.str "ints")) cNil))), ((cC (.str "at")), (cLst (cCons (cC (.str "int")) cNil))), ((cC (.str "size")), (cLst (cCons (cC (.str "int")) cNil)))])
def vdk_law_behind_1 : List (Key × A) := [((.inr "add" : Key), A.lst [A.str "int"]), ((.inr "sub" : Key), A.lst [A.str "int"]), ((.inr "mul" : Key), A.lst [A.str "int"]), ((.inr "div" : Key), A.lst [A.str "int"]), ((.inr "less" : Key), A.lst [A.str "int"]), ((.inr "same" : Key), A.lst [A.str "int"]), ((.inr "push" : Key), A.lst [A.str "int"]), ((.inr "row" : Key), A.lst [A.str "ints"]), ((.inr "at" : Key), A.lst [A.str "int"]), ((.inr "size" : Key), A.lst [A.str "int"])]
@[simp] theorem dk_law_behind_1_ap (e : Slots) (S : Store) : dk_law_behind_1 e S = .ok (.dic vdk_law_behind_1) S := rfl
def dk_law_behind_2 : C := (cDic [((cC (.str "push")), (cLst cNil)), ((cC (.str "row")), (cLst (cCons (cC (.str "int")) cNil))), ((cC (.str "at")), (cLst (cCons (cC (.str "ints")) (cCons (cC (.str "int")) cNil)))), ((cC (.str "put")), (cLst (cCons (cC (.str "ints")) (cCons (cC (.str "int")) (cCons (cC (.str "int")) cNil))))), ((cC (.str "size")), (cLst (cCons (cC (.str "ints")) cNil))), ((cC (.str "say")), (cLst (cCons (cC (.str "int")) cNil))), ((cC (.str "branch")), (cLst (cCons (cC (.str "int")) cNil))), ((cC (.str "jump")), (cLst cNil)), ((cC (.str "trap")), (cLst cNil))])
def vdk_law_behind_2 : List (Key × A) := [((.inr "push" : Key), A.lst []), ((.inr "row" : Key), A.lst [A.str "int"]), ((.inr "at" : Key), A.lst [A.str "ints", A.str "int"]), ((.inr "put" : Key), A.lst [A.str "ints", A.str "int", A.str "int"]), ((.inr "size" : Key), A.lst [A.str "ints"]), ((.inr "say" : Key), A.lst [A.str "int"]), ((.inr "branch" : Key), A.lst [A.str "int"]), ((.inr "jump" : Key), A.lst []), ((.inr "trap" : Key), A.lst [])]
@[simp] theorem dk_law_behind_2_ap (e : Slots) (S : Store) : dk_law_behind_2 e S = .ok (.dic vdk_law_behind_2) S := rfl
def b_law_behind_0 : CS :=
    (sRet (cIf (tAnd (tVal (c2 opGe (cVar 10) (cC (.int 0)))) (tVal (c2 opEq (cSl (cVar 1) (pSome (cVar 10)) pNo) (cVar 7)))) (cApp opTup (cCons (c2 opAdd (cSl (cVar 1) pNo (pSome (cVar 10))) (cVar 8)) cNil)) (cC .non)))
def b_law_behind_1 : CS :=
    (sSeq (sSet 10 (c2 opSub (cApp opLen (cCons (cVar 1) cNil)) (cApp opLen (cCons (cVar 7) cNil))))
    b_law_behind_0)
def b_law_behind_2 : CS :=
    (sSeq (sIf (tOr (tVal (c2 opIn (cVar 3) (cVar 4))) (tVal (c2 opIn (cVar 3) (cVar 6))))
    (sSeq (sSet 7 (cIf (tVal (c2 opIn (cVar 3) (cVar 4))) (c2 opIx (cVar 4) (cVar 3)) (c2 opIx (cVar 6) (cVar 3))))
    (sSet 8 (cIf (tVal (c2 opIn (cVar 3) (cVar 5))) (c2 opIx (cVar 5) (cVar 3)) (cLst cNil))))
    (sIf (tVal (c2 opEq (cVar 3) (cC (.str "load"))))
    (sPar2 7 8 (cCons (cLst cNil) (cCons (cLst (cCons (c2 opIx (cVar 2) (c2 opIx (cVar 0) (cC (.int 1)))) cNil)) cNil)))
    (sIf (tVal (c2 opEq (cVar 3) (cC (.str "store"))))
    (sPar2 7 8 (cCons (cLst (cCons (c2 opIx (cVar 2) (c2 opIx (cVar 0) (cC (.int 1)))) cNil)) (cCons (cLst cNil) cNil)))
    (sIf (tVal (c2 opEq (cVar 3) (cC (.str "nil"))))
    (sPar2 7 8 (cCons (cLst cNil) (cCons (cLst (cCons (c2 opIx (cVar 0) (cC (.int 1))) cNil)) cNil)))
    (sIf (tVal (c2 opEq (cVar 3) (cC (.str "call"))))
    (sAsg (cIf (tVal (c2 opEq (c2 opIx (cVar 0) (cC (.int 1))) (cC (.str "lib.f")))) (cTup (cCons (cLst (cCons (cC (.str "int")) (cCons (cC (.str "int")) cNil))) (cCons (cLst (cCons (cC (.str "int")) cNil)) cNil))) (cTup (cCons (cLst (cCons (cC (.str "int")) (cCons (cC (.str "lib.pair")) cNil))) (cCons (cLst (cCons (cC (.str "lib.pair")) cNil)) cNil)))) (gT ([7, 8].map gN)))
    (sIf (tVal (c2 opIn (cVar 3) (cLst (cCons (cC (.str "new")) (cCons (cC (.str "get")) (cCons (cC (.str "set")) cNil))))))
    (sSeq (sIf (tOr (tVal (c2 opNe (c2 opIx (cVar 0) (cC (.int 1))) (cC (.str "lib.pair")))) (tAnd (tVal (c2 opNe (cVar 3) (cC (.str "new")))) (tVal (c2 opGt (c2 opIx (cVar 0) (cC (.int 2))) (cC (.int 1))))))
    (sRet (cC .non))
    sNil)
    (sSeq (sSet 9 (cIf (tVal (c2 opEq (cVar 3) (cC (.str "new")))) (cC (.str "")) (c2 opIx (cLst (cCons (cC (.str "int")) (cCons (cC (.str "lib.pair")) cNil))) (c2 opIx (cVar 0) (cC (.int 2))))))
    (sSeq (sSet 7 (cIf (tVal (c2 opEq (cVar 3) (cC (.str "new")))) (cLst cNil) (cIf (tVal (c2 opEq (cVar 3) (cC (.str "get")))) (cLst (cCons (cC (.str "lib.pair")) cNil)) (cLst (cCons (cC (.str "lib.pair")) (cCons (cVar 9) cNil))))))
    (sSet 8 (cIf (tVal (c2 opEq (cVar 3) (cC (.str "new")))) (cLst (cCons (cC (.str "lib.pair")) cNil)) (cIf (tVal (c2 opEq (cVar 3) (cC (.str "get")))) (cLst (cCons (cVar 9) cNil)) (cLst cNil)))))))
    (sIf (tVal (c2 opIn (cVar 3) (cLst (cCons (cC (.str "drop")) (cCons (cC (.str "dup")) (cCons (cC (.str "isnil")) cNil))))))
    (sSeq (sIf (tOr (tVal (c2 opEq (cApp opLen (cCons (cVar 1) cNil)) (cC (.int 0)))) (tAnd (tVal (c2 opEq (cVar 3) (cC (.str "isnil")))) (tVal (c2 opEq (c2 opIx (cVar 1) (c1 opNeg (cC (.int 1)))) (cC (.str "int"))))))
    (sRet (cC .non))
    sNil)
    (sSeq (sSet 7 (cSl (cVar 1) (pSome (c1 opNeg (cC (.int 1)))) pNo))
    (sSet 8 (cIf (tVal (c2 opEq (cVar 3) (cC (.str "drop")))) (cLst cNil) (cIf (tVal (c2 opEq (cVar 3) (cC (.str "dup")))) (c2 opAdd (cVar 7) (cVar 7)) (cLst (cCons (cC (.str "int")) cNil)))))))
    (sIf (tVal (c2 opEq (cVar 3) (cC (.str "alike"))))
    (sSeq (sIf (tOr (tVal (c2 opLt (cApp opLen (cCons (cVar 1) cNil)) (cC (.int 2)))) (tOr (tVal (c2 opEq (c2 opIx (cVar 1) (c1 opNeg (cC (.int 1)))) (cC (.str "int")))) (tVal (c2 opNe (c2 opIx (cVar 1) (c1 opNeg (cC (.int 1)))) (c2 opIx (cVar 1) (c1 opNeg (cC (.int 2))))))))
    (sRet (cC .non))
    sNil)
    (sPar2 7 8 (cCons (cSl (cVar 1) (pSome (c1 opNeg (cC (.int 2)))) pNo) (cCons (cLst (cCons (cC (.str "int")) cNil)) cNil))))
    (sRet (cIf (tVal (c2 opEq (cVar 1) (cLst (cCons (cC (.str "int")) cNil)))) (cTup cNil) (cC .non)))))))))))
    b_law_behind_1)
def b_law_behind_3 : CS :=
    (sSeq (sSet 1 (cApp opList (cCons (cVar 1) cNil)))
    b_law_behind_2)
def b_law_behind_4 : CS :=
    (sSeq (sSet 6 dk_law_behind_2)
    b_law_behind_3)
def b_law_behind_5 : CS :=
    (sSeq (sSet 5 dk_law_behind_1)
    b_law_behind_4)
def b_law_behind_6 : CS :=
    (sSeq (sSet 4 dk_law_behind_0)
    b_law_behind_5)
def b_law_behind_7 : CS :=
    (sSeq (sSet 3 (c2 opIx (cVar 0) (cC (.int 0))))
    b_law_behind_6)
/-- _law_behind(instruction, stack): slots 0 instruction, 1 stack, 2 slots, 3 word, 4 takes, 5 leaves, 6 more, 7 asked, 8 left, 9 field, 10 size -/
def b_law_behind : CS :=
    (sSeq (sSet 2 (cLst (cCons (cC (.str "int")) (cCons (cC (.str "int")) (cCons (cC (.str "int")) (cCons (cC (.str "int")) (cCons (cC (.str "lib.pair")) (cCons (cC (.str "int")) cNil))))))))
    b_law_behind_7)
def m_law_behind : List A → M A := pureF (runBody 11 b_law_behind)
def b_law_steps_0 : CS :=
    (sRet (cLst (cCons (cTup (cCons (c2 opAdd (cVar 1) (cC (.int 1))) (cCons (cVar 4) cNil))) cNil)))
def b_law_steps_1 : CS :=
    (sSeq (sIf (tAnd (tVal (c2 opEq (cVar 3) (cC (.str "branch")))) (tVal (c2 opNe (c2 opIx (c2 opIx (cVar 0) (cVar 1)) (cC (.int 1))) (c2 opAdd (cVar 1) (cC (.int 1))))))
    (sRet (cApp opSort2 (cCons (cLst (cCons (cTup (cCons (c2 opAdd (cVar 1) (cC (.int 1))) (cCons (cVar 4) cNil))) (cCons (cTup (cCons (c2 opIx (c2 opIx (cVar 0) (cVar 1)) (cC (.int 1))) (cCons (cVar 4) cNil))) cNil))) cNil)))
    sNil)
    b_law_steps_0)
def b_law_steps_2 : CS :=
    (sSeq (sIf (tVal (c2 opEq (cVar 3) (cC (.str "jump"))))
    (sRet (cLst (cCons (cTup (cCons (c2 opIx (c2 opIx (cVar 0) (cVar 1)) (cC (.int 1))) (cCons (cVar 4) cNil))) cNil)))
    sNil)
    b_law_steps_1)
def b_law_steps_3 : CS :=
    (sSeq (sIf (tOr (tVal (c2 opIsN (cVar 4) (cC .non))) (tVal (c2 opIn (cVar 3) (cLst (cCons (cC (.str "return")) (cCons (cC (.str "trap")) cNil))))))
    (sRet (cIf (tVal (c2 opIsN (cVar 4) (cC .non))) (cC .non) (cLst cNil)))
    sNil)
    b_law_steps_2)
def b_law_steps_4 : CS :=
    (sSeq (sSet 4 (cApp m_law_behind (cCons (c2 opIx (cVar 0) (cVar 1)) (cCons (cVar 2) cNil))))
    b_law_steps_3)
def b_law_steps_5 : CS :=
    (sSeq (sSet 3 (c2 opIx (c2 opIx (cVar 0) (cVar 1)) (cC (.int 0))))
    b_law_steps_4)
/-- _law_steps(code, place, stack): slots 0 code, 1 place, 2 stack, 3 word, 4 behind -/
def b_law_steps : CS :=
    (sSeq (sIf (tNot (tVal (cChain opLe opLt (cC (.int 0)) (cVar 1) (cApp opLen (cCons (cVar 0) cNil)))))
    (sRet (cC .non))
    sNil)
    b_law_steps_5)
def m_law_steps : List A → M A := pureF (runBody 5 b_law_steps)
def b_law_map_0 : CS :=
    (sIf (tOr (tVal (c2 opNotIn (cVar 4) (cVar 1))) (tVal (c2 opNe (c2 opIx (cVar 1) (cVar 4)) (cVar 5))))
    (sRet (cC (.bl false)))
    sNil)
def b_law_map_1 : CS :=
    (sFor (cItF (cVar 3)) (gT ([4, 5].map gN))
    b_law_map_0 [2, 3, 4, 5])
def b_law_map_2 : CS :=
    (sSeq (sIf (tVal (c2 opIsN (cVar 3) (cC .non)))
    (sRet (cC (.bl false)))
    sNil)
    b_law_map_1)
def b_law_map_3 : CS :=
    (sSeq (sSet 3 (cApp m_law_steps (cCons (cVar 0) (cCons (cVar 2) (cCons (c2 opIx (cVar 1) (cVar 2)) cNil)))))
    b_law_map_2)
def b_law_map_4 : CS :=
    (sRet (cC (.bl true)))
def b_law_map_5 : CS :=
    (sSeq (sForD itemsK 1 (gN 2)
    b_law_map_3 [2, 3, 4, 5])
    b_law_map_4)
/-- _law_map(code, paper): slots 0 code, 1 paper, 2 place, 3 steps, 4 later, 5 stack -/
def b_law_map : CS :=
    (sSeq (sIf (tOr (tVal (c2 opNotIn (cC (.int 0)) (cVar 1))) (tVal (c2 opNe (c2 opIx (cVar 1) (cC (.int 0))) (cTup cNil))))
    (sRet (cC (.bl false)))
    sNil)
    b_law_map_5)
def m_law_map : List A → M A := pureF (runBody 6 b_law_map)
def b_law_along_0 : CS :=
    (sSet 2 (c2 opIx (cVar 5) (cC (.int 0))))
def b_law_along_1 : CS :=
    (sSeq (sIf (tVal (c2 opEq (cApp opLen (cCons (cVar 5) cNil)) (cC (.int 0))))
    (sRet (cC .non))
    sNil)
    b_law_along_0)
def b_law_along_2 : CS :=
    (sSeq (sSet 5 (cIf (tVal (c2 opIsN (cVar 4) (cC .non))) (cLst cNil) (cLc (cItF (cVar 4)) [6, 7] (gT ([6, 7].map gN)) (tVal (c2 opEq (cVar 6) (c2 opIx (cVar 1) (cVar 3)))) (cVar 7))))
    b_law_along_1)
def b_law_along_3 : CS :=
    (sSeq (sSet 4 (cApp m_law_steps (cCons (cVar 0) (cCons (c2 opIx (cVar 1) (c2 opSub (cVar 3) (cC (.int 1)))) (cCons (cVar 2) cNil)))))
    b_law_along_2)
def b_law_along_4 : CS :=
    (sRet (cVar 2))
def b_law_along_5 : CS :=
    (sSeq (sFor (cItR2 (cC (.int 1)) (cApp opLen (cCons (cVar 1) cNil))) (gN 3)
    b_law_along_3 [3, 4, 5, 6, 7])
    b_law_along_4)
def b_law_along_6 : CS :=
    (sSeq (sSet 2 (cTup cNil))
    b_law_along_5)
/-- _law_along(code, path): slots 0 code, 1 path, 2 stack, 3 k, 4 steps, 5 there, 6 place, 7 later -/
def b_law_along : CS :=
    (sSeq (sIf (tOr (tVal (c2 opEq (cApp opLen (cCons (cVar 1) cNil)) (cC (.int 0)))) (tVal (c2 opNe (c2 opIx (cVar 1) (cC (.int 0))) (cC (.int 0)))))
    (sRet (cC .non))
    sNil)
    b_law_along_6)
def m_law_along : List A → M A := pureF (runBody 8 b_law_along)
def b_law_fault_0 : CS :=
    (sRet (cAnd (c2 opNotN (cVar 3) (cC .non)) (cAnd (c2 opEq (c2 opIx (c2 opIx (cVar 1) (cC (.int 1))) (c1 opNeg (cC (.int 1)))) (c2 opIx (c2 opIx (cVar 1) (cC (.int 2))) (c1 opNeg (cC (.int 1))))) (c2 opNe (cVar 3) (cVar 2)))))
def b_law_fault_1 : CS :=
    (sSeq (sSet 3 (cApp m_law_along (cCons (cVar 0) (cCons (c2 opIx (cVar 1) (cC (.int 2))) cNil))))
    b_law_fault_0)
def b_law_fault_2 : CS :=
    (sSeq (sIf (tOr (tVal (c2 opNe (c2 opIx (cVar 1) (cC (.int 0))) (cC (.str "apart")))) (tVal (c2 opNe (cApp opLen (cCons (cVar 1) cNil)) (cC (.int 3)))))
    (sRet (cC (.bl false)))
    sNil)
    b_law_fault_1)
def b_law_fault_3 : CS :=
    (sSeq (sIf (tVal (c2 opEq (c2 opIx (cVar 1) (cC (.int 0))) (cC (.str "stuck"))))
    (sRet (cAnd (c2 opEq (cApp opLen (cCons (cVar 1) cNil)) (cC (.int 2))) (c2 opIsN (cApp m_law_steps (cCons (cVar 0) (cCons (c2 opIx (c2 opIx (cVar 1) (cC (.int 1))) (c1 opNeg (cC (.int 1)))) (cCons (cVar 2) cNil)))) (cC .non))))
    sNil)
    b_law_fault_2)
def b_law_fault_4 : CS :=
    (sSeq (sIf (tVal (c2 opIsN (cVar 2) (cC .non)))
    (sRet (cC (.bl false)))
    sNil)
    b_law_fault_3)
/-- _law_fault(code, paper): slots 0 code, 1 paper, 2 stack, 3 other -/
def b_law_fault : CS :=
    (sSeq (sSet 2 (cApp m_law_along (cCons (cVar 0) (cCons (c2 opIx (cVar 1) (cC (.int 1))) cNil))))
    b_law_fault_4)
def m_law_fault : List A → M A := pureF (runBody 4 b_law_fault)
def b_law_least_0 : CS :=
    (sIf (tVal (c2 opNotIn (cVar 5) (cVar 1)))
    (sSeq (sAsg (cVar 6) (gSub (cVar 1) (cVar 5) opSet))
    (sExp (cMt "list" opApp (cVar 2) (cCons (cVar 5) cNil))))
    sNil)
def b_law_least_1 : CS :=
    (sSeq (sIf (tAnd (tVal (c2 opIn (cVar 5) (cVar 1))) (tVal (c2 opNe (c2 opIx (cVar 1) (cVar 5)) (cVar 6))))
    (sRet (cC .non))
    sNil)
    b_law_least_0)
def b_law_least_2 : CS :=
    (sIf (tVal (c2 opLt (cVar 3) (cApp opLen (cCons (cVar 2) cNil))))
    (sSeq (sSet 4 (cApp m_law_steps (cCons (cVar 0) (cCons (c2 opIx (cVar 2) (cVar 3)) (cCons (c2 opIx (cVar 1) (c2 opIx (cVar 2) (cVar 3))) cNil)))))
    (sSeq (sIf (tVal (c2 opIsN (cVar 4) (cC .non)))
    (sRet (cC .non))
    sNil)
    (sFor (cItF (cVar 4)) (gT ([5, 6].map gN))
    b_law_least_1 [3, 4, 5, 6])))
    sNil)
def b_law_least_3 : CS :=
    (sRet (cVar 1))
def b_law_least_4 : CS :=
    (sSeq (sFor (cItR1 (cC (.int 70))) (gN 3)
    b_law_least_2 [3, 4, 5, 6])
    b_law_least_3)
def b_law_least_5 : CS :=
    (sSeq (sSet 2 (cLstN (cCons (cC (.int 0)) cNil)))
    b_law_least_4)
def b_law_least_6 : CS :=
    (sSeq (sAsg (cTup cNil) (gSub (cVar 1) (cC (.int 0)) opSet))
    b_law_least_5)
/-- _law_least(code): slots 0 code, 1 found, 2 order, 3 at, 4 steps, 5 later, 6 stack -/
def b_law_least : CS :=
    (sSeq (sSet 1 cDicN0)
    b_law_least_6)
def m_law_least : List A → M A := pureF (runBody 7 b_law_least)
def b_law_changed_map_0 : CS :=
    (sAsg (cIf (tVal (c2 opEq (cVar 7) (cVar 4))) (cVar 5) (c2 opIx (cVar 1) (cVar 7))) (gSub (cVar 6) (cVar 7) opSet))
def b_law_changed_map_1 : CS :=
    (sExp (cMt "list" opApp (cVar 2) (cCons (cVar 6) cNil)))
def b_law_changed_map_2 : CS :=
    (sSeq (sForD itemsK 1 (gN 7)
    b_law_changed_map_0 [0, 7, 8, 9])
    b_law_changed_map_1)
def b_law_changed_map_3 : CS :=
    (sSeq (sSet 6 cDicN0)
    b_law_changed_map_2)
def b_law_changed_map_4 : CS :=
    (sIf (tVal (c2 opNe (cVar 7) (cVar 4)))
    (sAsg (c2 opIx (cVar 1) (cVar 7)) (gSub (cVar 8) (cVar 7) opSet))
    sNil)
def b_law_changed_map_5 : CS :=
    (sSeq (sAsg (c2 opIx (cVar 1) (cVar 7)) (gSub (cVar 9) (cVar 7) opSet))
    b_law_changed_map_4)
def b_law_changed_map_6 : CS :=
    (sRet (c2 opAdd (cVar 2) (cLst (cCons (cVar 8) (cCons (cVar 9) (cCons cDicN0 cNil))))))
def b_law_changed_map_7 : CS :=
    (sSeq (sAsg (cTup (cCons (cC (.str "int")) cNil)) (gSub (cVar 9) (c2 opAdd (c2 opIx (cVar 3) (c1 opNeg (cC (.int 1)))) (cC (.int 1))) opSet))
    b_law_changed_map_6)
def b_law_changed_map_8 : CS :=
    (sSeq (sForD itemsK 1 (gN 7)
    b_law_changed_map_5 [0, 5, 6, 7])
    b_law_changed_map_7)
def b_law_changed_map_9 : CS :=
    (sSeq (sSet 9 cDicN0)
    b_law_changed_map_8)
def b_law_changed_map_10 : CS :=
    (sSeq (sSet 8 cDicN0)
    b_law_changed_map_9)
def b_law_changed_map_11 : CS :=
    (sSeq (sFor (cItF (cLst (cCons (cTup cNil) (cCons (cTup (cCons (cC (.str "int")) cNil)) (cCons (cTup (cCons (cC (.str "lib.pair")) cNil)) cNil))))) (gN 5)
    b_law_changed_map_3 [0, 5, 6, 7, 8, 9])
    b_law_changed_map_10)
def b_law_changed_map_12 : CS :=
    (sSeq (sSet 4 (cApp m_law_pick (cCons (cVar 0) (cCons (cVar 3) cNil))))
    b_law_changed_map_11)
def b_law_changed_map_13 : CS :=
    (sSeq (sSet 3 (cApp opSortI (cCons (cApp opList (cCons (cVar 1) cNil)) cNil)))
    b_law_changed_map_12)
/-- _law_changed_map(deal, paper): slots 0 deal, 1 paper, 2 bent, 3 places, 4 at, 5 one, 6 other, 7 place, 8 less, 9 more -/
def b_law_changed_map : CS :=
    (sSeq (sSet 2 (cLstN (cCons (cVar 1) cNil)))
    b_law_changed_map_13)
def m_law_changed_map : List A → M A := scopeF (runBody 10 b_law_changed_map)
def b_law_0 : CS :=
    (sIf (tNot (tVal (cApp m_law_bool (cCons (cApp m_shows_map (cCons (cVar 7) (cCons (cVar 5) (cCons (cVar 11) cNil)))) (cCons (cApp m_law_map (cCons (cVar 6) (cCons (cVar 11) cNil))) cNil)))))
    (sRet (cC (.bl false)))
    sNil)
def b_law_1 : CS :=
    (sIf (tNot (tVal (cApp m_law_bool (cCons (cApp m_shows_fault (cCons (cVar 7) (cCons (cVar 5) (cCons (cVar 11) cNil)))) (cCons (cApp m_law_fault (cCons (cVar 6) (cCons (cVar 11) cNil))) cNil)))))
    (sRet (cC (.bl false)))
    sNil)
def b_law_2 : CS :=
    (sIf (tNot (tVal (cApp (m_law_same 12) (cCons (cApp m_steps_of (cCons (cVar 7) (cCons (cVar 5) (cCons (cVar 15) (cCons (cVar 16) cNil))))) (cCons (cApp m_law_steps (cCons (cVar 6) (cCons (cVar 15) (cCons (cVar 16) cNil)))) cNil)))))
    (sRet (cC (.bl false)))
    sNil)
def b_law_3 : CS :=
    (sSeq (sSet 16 (cApp m_law_pick (cCons (cVar 1) (cCons (cLst (cCons (cTup cNil) (cCons (cTup (cCons (cC (.str "int")) cNil)) (cCons (cTup (cCons (cC (.str "int")) (cCons (cC (.str "int")) cNil))) (cCons (cTup (cCons (cC (.str "lib.pair")) cNil)) (cCons (cTup (cCons (cC (.str "lib.pair")) (cCons (cC (.str "int")) cNil))) (cCons (cTup (cCons (cC (.str "ints")) (cCons (cC (.str "int")) cNil))) (cCons (cTup (cCons (cC (.str "ints")) (cCons (cC (.str "int")) (cCons (cC (.str "int")) cNil)))) (cCons (cTup (cCons (cC (.str "lib.pair")) (cCons (cC (.str "lib.pair")) cNil))) cNil))))))))) cNil))))
    b_law_2)
def b_law_4 : CS :=
    (sSeq (sSet 15 (cApp m_law_take (cCons (cVar 1) (cCons (c2 opAdd (cApp opLen (cCons (cVar 6) cNil)) (cC (.int 1))) cNil))))
    b_law_3)
def b_law_5 : CS :=
    (sRet (cC (.bl true)))
def b_law_6 : CS :=
    (sSeq (sFor (cItR1 (cC (.int 4))) (gN 14)
    b_law_4 [0, 2, 3, 4, 8, 9, 10, 11, 12, 13, 14, 15, 16])
    b_law_5)
def b_law_7 : CS :=
    (sSeq (sIf (tAnd (tVal (c2 opNotN (cVar 10) (cC .non))) (tNot (tVal (cApp m_law_fault (cCons (cVar 6) (cCons (cVar 10) cNil))))))
    (sRet (cC (.bl false)))
    sNil)
    b_law_6)
def b_law_8 : CS :=
    (sSeq (sFor (cItF (c2 opAdd (cVar 13) (cIf (tVal (c2 opNotN (cVar 10) (cC .non))) (cLst (cCons (cVar 10) (cCons (cSl (cVar 10) pNo (pSome (cC (.int 2)))) cNil))) (cLst cNil)))) (gN 11)
    b_law_1 [0, 2, 3, 4, 8, 9, 11, 12, 13, 14, 15, 16])
    b_law_7)
def b_law_9 : CS :=
    (sSeq (sSet 13 (cLst (cCons (cTup (cCons (cC (.str "stuck")) (cCons (cVar 12) cNil))) (cCons (cTup (cCons (cC (.str "stuck")) (cCons (cSl (cVar 12) pNo (pSome (c1 opNeg (cC (.int 1))))) cNil))) (cCons (cTup (cCons (cC (.str "stuck")) (cCons (c2 opAdd (cVar 12) (cTup (cCons (c2 opAdd (c2 opIx (cVar 12) (c1 opNeg (cC (.int 1)))) (cC (.int 1))) cNil))) cNil))) (cCons (cTup (cCons (cC (.str "apart")) (cCons (cVar 12) (cCons (cVar 12) cNil)))) (cCons (cTup (cCons (cC (.str "apart")) (cCons (cVar 12) (cCons (cSl (cVar 12) pNo (pSome (cC (.int 1)))) cNil)))) (cCons (cTup (cCons (cC (.str "stuck")) (cCons (cTup cNil) cNil))) (cCons (cTup (cCons (cC (.str "odd")) (cCons (cVar 12) cNil))) (cCons (cTup (cCons (cC (.str "stuck")) (cCons (cTup (cCons (cC (.int 1)) cNil)) cNil))) cNil))))))))))
    b_law_8)
def b_law_10 : CS :=
    (sSeq (sSet 12 (cIf (tVal (c2 opNotN (cVar 10) (cC .non))) (c2 opIx (cVar 10) (cC (.int 1))) (c1 opRgT (c2 opAdd (cC (.int 1)) (cApp m_law_take (cCons (cVar 1) (cCons (cApp opLen (cCons (cVar 6) cNil)) cNil)))))))
    b_law_9)
def b_law_11 : CS :=
    (sSeq (sIf (tVal (c2 opNotN (cVar 9) (cC .non)))
    (sSeq (sIf (tOr (tVal (c2 opNe2 (cVar 9) (cVar 8))) (tNot (tVal (cApp m_law_map (cCons (cVar 6) (cCons (cVar 9) cNil))))))
    (sRet (cC (.bl false)))
    sNil)
    (sFor (cItF (cApp m_law_changed_map (cCons (cVar 1) (cCons (cVar 9) cNil)))) (gN 11)
    b_law_0 [0, 2, 3, 4, 8, 9, 11, 12, 13, 14, 15, 16]))
    sNil)
    b_law_10)
def b_law_12 : CS :=
    (sSeq (sIf (tOr (tVal (c2 opEq (c2 opIsN (cVar 9) (cC .non)) (c2 opIsN (cVar 10) (cC .non)))) (tOr (tVal (c2 opNe (c2 opIsN (cVar 8) (cC .non)) (c2 opIsN (cVar 9) (cC .non)))) (tNot (tVal (cApp m_law_bool (cCons (cApp m_is_accepted (cCons (cVar 7) cNil)) (cCons (c2 opNotN (cVar 8) (cC .non)) cNil)))))))
    (sRet (cC (.bl false)))
    sNil)
    b_law_11)
def b_law_13 : CS :=
    (sSeq (sSet 10 (cApp m_fault_paper (cCons (cVar 7) (cCons (cVar 5) cNil))))
    b_law_12)
def b_law_14 : CS :=
    (sSeq (sSet 9 (cApp m_least_map (cCons (cVar 7) (cCons (cVar 5) cNil))))
    b_law_13)
def b_law_15 : CS :=
    (sSeq (sSet 8 (cApp m_law_least (cCons (cVar 6) cNil)))
    b_law_14)
def b_law_16 : CS :=
    (sSeq (sSet 7 (cTup (cCons (cC (.str "main")) (cCons (c2 opIx (cVar 4) (cC (.int 1))) (cCons (c2 opIx (cVar 4) (cC (.int 2))) (cCons (cTup (cCons (cVar 5) cNil)) (cCons (c2 opIx (cVar 4) (cC (.int 4))) cNil)))))))
    b_law_15)
def b_law_17 : CS :=
    (sSeq (sSet 6 (c2 opIx (cVar 5) (cC (.int 4))))
    b_law_16)
def b_law_18 : CS :=
    (sSeq (sSet 5 (cApp m_law_function (cCons (cVar 1) (cCons (cVar 2) cNil))))
    b_law_17)
def b_law_19 : CS :=
    (sSeq (sAsg (cApp m_law_parts (cCons (cVar 2) cNil)) (gT ([3, 4].map gN)))
    b_law_18)
def b_law_20 : CS :=
    (sSeq (sSet 2 (cApp m_law_tree (cCons (cVar 1) cNil)))
    b_law_19)
/-- law(script): slots 0 script, 1 deal, 2 tree, 3 lib, 4 main, 5 function, 6 code, 7 part, 8 due, 9 told, 10 fault, 11 one, 12 path, 13 drawn, 14 turn, 15 place, 16 stack -/
def b_law : CS :=
    (sSeq (sSet 1 (cApp m_law_deal (cCons (cVar 0) cNil)))
    b_law_20)
def m_law : List A → M A := (runBody 17 b_law)
/-- what the head tells -/
structure Facts (w : World) (K : PySem.W.Frag) (mg : Str → Option Value) : Prop where
  b_abs : mg "abs" = none
  b_bool : mg "bool" = none
  b_int : mg "int" = none
  b_isinstance : mg "isinstance" = none
  b_len : mg "len" = none
  b_list : mg "list" = none
  b_min : mg "min" = none
  b_range : mg "range" = none
  b_set : mg "set" = none
  b_sorted : mg "sorted" = none
  b_str : mg "str" = none
  b_sum : mg "sum" = none
  b_tuple : mg "tuple" = none
  k_LETTERS : KG mg K "LETTERS" k_LETTERS
  k_DIGITS : KG mg K "DIGITS" k_DIGITS
  k_LONGEST_NAME : KG mg K "LONGEST_NAME" k_LONGEST_NAME
  k_LEAST_WORD : KG mg K "LEAST_WORD" k_LEAST_WORD
  k_GREATEST_WORD : KG mg K "GREATEST_WORD" k_GREATEST_WORD
  k_INT : KG mg K "INT" k_INT
  k_INTS : KG mg K "INTS" k_INTS
  k_NO_RESULT : KG mg K "NO_RESULT" k_NO_RESULT
  k_FIELDS : KG mg K "FIELDS" k_FIELDS
  k_PLAIN : KG mg K "PLAIN" k_PLAIN
  k_MOST_RECORDS : KG mg K "MOST_RECORDS" k_MOST_RECORDS
  k_MOST_FIELDS : KG mg K "MOST_FIELDS" k_MOST_FIELDS
  k_MOST_USES : KG mg K "MOST_USES" k_MOST_USES
  k_MOST_FUNCTIONS : KG mg K "MOST_FUNCTIONS" k_MOST_FUNCTIONS
  k_MOST_PLACES : KG mg K "MOST_PLACES" k_MOST_PLACES
  k_MOST_SLOTS : KG mg K "MOST_SLOTS" k_MOST_SLOTS
  k_SUMS : KG mg K "SUMS" k_SUMS
  t_FIXED : TabOk mg K w "FIXED" t_FIXED
  g_is_name : mg "is_name" = some (.ref (He.ga K "is_name"))
  d_is_name : ∃ fd, FunD K "is_name" "is_name" (defArgs st_is_name) (defBody st_is_name) (defScope st_is_name) [] [] (He.ga K "is_name") fd
  g_is_full : mg "is_full" = some (.ref (He.ga K "is_full"))
  d_is_full : ∃ fd, FunD K "is_full" "is_full" (defArgs st_is_full) (defBody st_is_full) (defScope st_is_full) [] [] (He.ga K "is_full") fd
  g_is_word : mg "is_word" = some (.ref (He.ga K "is_word"))
  d_is_word : ∃ fd, FunD K "is_word" "is_word" (defArgs st_is_word) (defBody st_is_word) (defScope st_is_word) [] [] (He.ga K "is_word") fd
  g_part_of : mg "part_of" = some (.ref (He.ga K "part_of"))
  d_part_of : ∃ fd, FunD K "part_of" "part_of" (defArgs st_part_of) (defBody st_part_of) (defScope st_part_of) [] [] (He.ga K "part_of") fd
  g_own : mg "own" = some (.ref (He.ga K "own"))
  d_own : ∃ fd, FunD K "own" "own" (defArgs st_own) (defBody st_own) (defScope st_own) [] [] (He.ga K "own") fd
  g_record_of : mg "record_of" = some (.ref (He.ga K "record_of"))
  d_record_of : ∃ fd, FunD K "record_of" "record_of" (defArgs st_record_of) (defBody st_record_of) (defScope st_record_of) [] [] (He.ga K "record_of") fd
  g_signature : mg "signature" = some (.ref (He.ga K "signature"))
  d_signature : ∃ fd, FunD K "signature" "signature" (defArgs st_signature) (defBody st_signature) (defScope st_signature) [] [] (He.ga K "signature") fd
  g_is_type : mg "is_type" = some (.ref (He.ga K "is_type"))
  d_is_type : ∃ fd, FunD K "is_type" "is_type" (defArgs st_is_type) (defBody st_is_type) (defScope st_is_type) [] [] (He.ga K "is_type") fd
  g_are_types : mg "are_types" = some (.ref (He.ga K "are_types"))
  d_are_types : ∃ fd, FunD K "are_types" "are_types" (defArgs st_are_types) (defBody st_are_types) (defScope st_are_types) [] [] (He.ga K "are_types") fd
  g_is_result : mg "is_result" = some (.ref (He.ga K "is_result"))
  d_is_result : ∃ fd, FunD K "is_result" "is_result" (defArgs st_is_result) (defBody st_is_result) (defScope st_is_result) [] [] (He.ga K "is_result") fd
  g_are_different : mg "are_different" = some (.ref (He.ga K "are_different"))
  d_are_different : ∃ fd, FunD K "are_different" "are_different" (defArgs st_are_different) (defBody st_are_different) (defScope st_are_different) [] [] (He.ga K "are_different") fd
  g_is_instruction : mg "is_instruction" = some (.ref (He.ga K "is_instruction"))
  d_is_instruction : ∃ fd, FunD K "is_instruction" "is_instruction" (defArgs st_is_instruction) (defBody st_is_instruction) (defScope st_is_instruction) [] [] (He.ga K "is_instruction") fd
  g_is_function : mg "is_function" = some (.ref (He.ga K "is_function"))
  d_is_function : ∃ fd, FunD K "is_function" "is_function" (defArgs st_is_function) (defBody st_is_function) (defScope st_is_function) [] [] (He.ga K "is_function") fd
  g_is_use : mg "is_use" = some (.ref (He.ga K "is_use"))
  d_is_use : ∃ fd, FunD K "is_use" "is_use" (defArgs st_is_use) (defBody st_is_use) (defScope st_is_use) [] [] (He.ga K "is_use") fd
  g_is_open : mg "is_open" = some (.ref (He.ga K "is_open"))
  d_is_open : ∃ fd, FunD K "is_open" "is_open" (defArgs st_is_open) (defBody st_is_open) (defScope st_is_open) [] [] (He.ga K "is_open") fd
  g_is_part : mg "is_part" = some (.ref (He.ga K "is_part"))
  d_is_part : ∃ fd, FunD K "is_part" "is_part" (defArgs st_is_part) (defBody st_is_part) (defScope st_is_part) [] [] (He.ga K "is_part") fd
  g_slots_of : mg "slots_of" = some (.ref (He.ga K "slots_of"))
  d_slots_of : ∃ fd, FunD K "slots_of" "slots_of" (defArgs st_slots_of) (defBody st_slots_of) (defScope st_slots_of) [] [] (He.ga K "slots_of") fd
  g_taken : mg "taken" = some (.ref (He.ga K "taken"))
  d_taken : ∃ fd, FunD K "taken" "taken" (defArgs st_taken) (defBody st_taken) (defScope st_taken) [] [] (He.ga K "taken") fd
  g_changed : mg "changed" = some (.ref (He.ga K "changed"))
  d_changed : ∃ fd, FunD K "changed" "changed" (defArgs st_changed) (defBody st_changed) (defScope st_changed) [] [] (He.ga K "changed") fd
  g_with_slot : mg "with_slot" = some (.ref (He.ga K "with_slot"))
  d_with_slot : ∃ fd, FunD K "with_slot" "with_slot" (defArgs st_with_slot) (defBody st_with_slot) (defScope st_with_slot) [] [] (He.ga K "with_slot") fd
  g_with_thing : mg "with_thing" = some (.ref (He.ga K "with_thing"))
  d_with_thing : ∃ fd, FunD K "with_thing" "with_thing" (defArgs st_with_thing) (defBody st_with_thing) (defScope st_with_thing) [] [] (He.ga K "with_thing") fd
  g_with_top : mg "with_top" = some (.ref (He.ga K "with_top"))
  d_with_top : ∃ fd, FunD K "with_top" "with_top" (defArgs st_with_top) (defBody st_with_top) (defScope st_with_top) [] [] (He.ga K "with_top") fd
  g_with_call : mg "with_call" = some (.ref (He.ga K "with_call"))
  d_with_call : ∃ fd, FunD K "with_call" "with_call" (defArgs st_with_call) (defBody st_with_call) (defScope st_with_call) [] [] (He.ga K "with_call") fd
  g_stack_behind : mg "stack_behind" = some (.ref (He.ga K "stack_behind"))
  d_stack_behind : ∃ fd, FunD K "stack_behind" "stack_behind" (defArgs st_stack_behind) (defBody st_stack_behind) (defScope st_stack_behind) [] [] (He.ga K "stack_behind") fd
  g_steps_of : mg "steps_of" = some (.ref (He.ga K "steps_of"))
  d_steps_of : ∃ fd, FunD K "steps_of" "steps_of" (defArgs st_steps_of) (defBody st_steps_of) (defScope st_steps_of) [] [] (He.ga K "steps_of") fd
  g_shows_map : mg "shows_map" = some (.ref (He.ga K "shows_map"))
  d_shows_map : ∃ fd, FunD K "shows_map" "shows_map" (defArgs st_shows_map) (defBody st_shows_map) (defScope st_shows_map) [] [] (He.ga K "shows_map") fd
  g_walked : mg "walked" = some (.ref (He.ga K "walked"))
  d_walked : ∃ fd, FunD K "walked" "walked" (defArgs st_walked) (defBody st_walked) (defScope st_walked) [] [] (He.ga K "walked") fd
  g_least_map : mg "least_map" = some (.ref (He.ga K "least_map"))
  d_least_map : ∃ fd, FunD K "least_map" "least_map" (defArgs st_least_map) (defBody st_least_map) (defScope st_least_map) [] [] (He.ga K "least_map") fd
  g_fault_paper : mg "fault_paper" = some (.ref (He.ga K "fault_paper"))
  d_fault_paper : ∃ fd, FunD K "fault_paper" "fault_paper" (defArgs st_fault_paper) (defBody st_fault_paper) (defScope st_fault_paper) [] [] (He.ga K "fault_paper") fd
  g_stack_along : mg "stack_along" = some (.ref (He.ga K "stack_along"))
  d_stack_along : ∃ fd, FunD K "stack_along" "stack_along" (defArgs st_stack_along) (defBody st_stack_along) (defScope st_stack_along) [] [] (He.ga K "stack_along") fd
  g_shows_fault : mg "shows_fault" = some (.ref (He.ga K "shows_fault"))
  d_shows_fault : ∃ fd, FunD K "shows_fault" "shows_fault" (defArgs st_shows_fault) (defBody st_shows_fault) (defScope st_shows_fault) [] [] (He.ga K "shows_fault") fd
  g_is_accepted : mg "is_accepted" = some (.ref (He.ga K "is_accepted"))
  d_is_accepted : ∃ fd, FunD K "is_accepted" "is_accepted" (defArgs st_is_accepted) (defBody st_is_accepted) (defScope st_is_accepted) [] [] (He.ga K "is_accepted") fd
  g__law_deal : mg "_law_deal" = some (.ref (He.ga K "_law_deal"))
  d__law_deal : ∃ fd, FunD K "_law_deal" "_law_deal" (defArgs st__law_deal) (defBody st__law_deal) (defScope st__law_deal) [] [] (He.ga K "_law_deal") fd
  g__law_take : mg "_law_take" = some (.ref (He.ga K "_law_take"))
  d__law_take : ∃ fd, FunD K "_law_take" "_law_take" (defArgs st__law_take) (defBody st__law_take) (defScope st__law_take) [] [] (He.ga K "_law_take") fd
  g__law_same : mg "_law_same" = some (.ref (He.ga K "_law_same"))
  d__law_same : ∃ fd, FunD K "_law_same" "_law_same" (defArgs st__law_same) (defBody st__law_same) (defScope st__law_same) [] [] (He.ga K "_law_same") fd
  g__law_bool : mg "_law_bool" = some (.ref (He.ga K "_law_bool"))
  d__law_bool : ∃ fd, FunD K "_law_bool" "_law_bool" (defArgs st__law_bool) (defBody st__law_bool) (defScope st__law_bool) [] [] (He.ga K "_law_bool") fd
  g__law_pick : mg "_law_pick" = some (.ref (He.ga K "_law_pick"))
  d__law_pick : ∃ fd, FunD K "_law_pick" "_law_pick" (defArgs st__law_pick) (defBody st__law_pick) (defScope st__law_pick) [] [] (He.ga K "_law_pick") fd
  g__law_word : mg "_law_word" = some (.ref (He.ga K "_law_word"))
  d__law_word : ∃ fd, FunD K "_law_word" "_law_word" (defArgs st__law_word) (defBody st__law_word) (defScope st__law_word) [] [] (He.ga K "_law_word") fd
  g__law_expr : mg "_law_expr" = some (.ref (He.ga K "_law_expr"))
  d__law_expr : ∃ fd, FunD K "_law_expr" "_law_expr" (defArgs st__law_expr) (defBody st__law_expr) (defScope st__law_expr) [] [] (He.ga K "_law_expr") fd
  g__law_statement : mg "_law_statement" = some (.ref (He.ga K "_law_statement"))
  d__law_statement : ∃ fd, FunD K "_law_statement" "_law_statement" (defArgs st__law_statement) (defBody st__law_statement) (defScope st__law_statement) [] [] (He.ga K "_law_statement") fd
  g__law_tree : mg "_law_tree" = some (.ref (He.ga K "_law_tree"))
  d__law_tree : ∃ fd, FunD K "_law_tree" "_law_tree" (defArgs st__law_tree) (defBody st__law_tree) (defScope st__law_tree) [] [] (He.ga K "_law_tree") fd
  g__law_code : mg "_law_code" = some (.ref (He.ga K "_law_code"))
  d__law_code : ∃ fd, FunD K "_law_code" "_law_code" (defArgs st__law_code) (defBody st__law_code) (defScope st__law_code) [] [] (He.ga K "_law_code") fd
  g__law_statement_code : mg "_law_statement_code" = some (.ref (He.ga K "_law_statement_code"))
  d__law_statement_code : ∃ fd, FunD K "_law_statement_code" "_law_statement_code" (defArgs st__law_statement_code) (defBody st__law_statement_code) (defScope st__law_statement_code) [] [] (He.ga K "_law_statement_code") fd
  g__law_body_code : mg "_law_body_code" = some (.ref (He.ga K "_law_body_code"))
  d__law_body_code : ∃ fd, FunD K "_law_body_code" "_law_body_code" (defArgs st__law_body_code) (defBody st__law_body_code) (defScope st__law_body_code) [] [] (He.ga K "_law_body_code") fd
  g__law_main_code : mg "_law_main_code" = some (.ref (He.ga K "_law_main_code"))
  d__law_main_code : ∃ fd, FunD K "_law_main_code" "_law_main_code" (defArgs st__law_main_code) (defBody st__law_main_code) (defScope st__law_main_code) [] [] (He.ga K "_law_main_code") fd
  g__law_parts : mg "_law_parts" = some (.ref (He.ga K "_law_parts"))
  d__law_parts : ∃ fd, FunD K "_law_parts" "_law_parts" (defArgs st__law_parts) (defBody st__law_parts) (defScope st__law_parts) [] [] (He.ga K "_law_parts") fd
  g__law_drawn : mg "_law_drawn" = some (.ref (He.ga K "_law_drawn"))
  d__law_drawn : ∃ fd, FunD K "_law_drawn" "_law_drawn" (defArgs st__law_drawn) (defBody st__law_drawn) (defScope st__law_drawn) [] [] (He.ga K "_law_drawn") fd
  g__law_function : mg "_law_function" = some (.ref (He.ga K "_law_function"))
  d__law_function : ∃ fd, FunD K "_law_function" "_law_function" (defArgs st__law_function) (defBody st__law_function) (defScope st__law_function) [] [] (He.ga K "_law_function") fd
  g__law_behind : mg "_law_behind" = some (.ref (He.ga K "_law_behind"))
  d__law_behind : ∃ fd, FunD K "_law_behind" "_law_behind" (defArgs st__law_behind) (defBody st__law_behind) (defScope st__law_behind) [] [] (He.ga K "_law_behind") fd
  g__law_steps : mg "_law_steps" = some (.ref (He.ga K "_law_steps"))
  d__law_steps : ∃ fd, FunD K "_law_steps" "_law_steps" (defArgs st__law_steps) (defBody st__law_steps) (defScope st__law_steps) [] [] (He.ga K "_law_steps") fd
  g__law_map : mg "_law_map" = some (.ref (He.ga K "_law_map"))
  d__law_map : ∃ fd, FunD K "_law_map" "_law_map" (defArgs st__law_map) (defBody st__law_map) (defScope st__law_map) [] [] (He.ga K "_law_map") fd
  g__law_along : mg "_law_along" = some (.ref (He.ga K "_law_along"))
  d__law_along : ∃ fd, FunD K "_law_along" "_law_along" (defArgs st__law_along) (defBody st__law_along) (defScope st__law_along) [] [] (He.ga K "_law_along") fd
  g__law_fault : mg "_law_fault" = some (.ref (He.ga K "_law_fault"))
  d__law_fault : ∃ fd, FunD K "_law_fault" "_law_fault" (defArgs st__law_fault) (defBody st__law_fault) (defScope st__law_fault) [] [] (He.ga K "_law_fault") fd
  g__law_least : mg "_law_least" = some (.ref (He.ga K "_law_least"))
  d__law_least : ∃ fd, FunD K "_law_least" "_law_least" (defArgs st__law_least) (defBody st__law_least) (defScope st__law_least) [] [] (He.ga K "_law_least") fd
  g__law_changed_map : mg "_law_changed_map" = some (.ref (He.ga K "_law_changed_map"))
  d__law_changed_map : ∃ fd, FunD K "_law_changed_map" "_law_changed_map" (defArgs st__law_changed_map) (defBody st__law_changed_map) (defScope st__law_changed_map) [] [] (He.ga K "_law_changed_map") fd
  g_law : mg "law" = some (.ref (He.ga K "law"))
  d_law : ∃ fd, FunD K "law" "law" (defArgs st_law) (defBody st_law) (defScope st_law) [] [] (He.ga K "law") fd
section
variable {P : Program} {w : World} {K : PySem.W.Frag} {mg : Str → Option Value} {base : Heap}
theorem H_is_name (T : Facts w K mg) : Has P w K mg base "is_name" 1 1 m_is_name := by
  obtain ⟨fd, F⟩ := T.d_is_name
  have S : FnScope ["text", "sign"] ["text"] (defScope st_is_name) := ⟨rfl, rfl, rfl, by decide +kernel, rfl, by decide +kernel, by decide +kernel⟩
  have nd := S.nd
  refine (Has.of (k := 0) F T.g_is_name S (fun _ _ _ _ _ _ us hl => match us, hl with | [_], _ => rfl) fun cdv A outer s H E O => ?_).pureD
  exact (x_cons (x_if (PW.pt (w_or (t_not (t_chain op_le op_le f_le f_le e_int (e_callB or_len f_len rfl T.b_len (by decide +kernel) (a_cons (e_var 0) a_nil)) (e_glob T.k_LONGEST_NAME))) (w_or1 (t_cmp (or_notIn O) f_notIn (e_ix (or_ix O) f_ix (e_var 0) e_int) (e_glob T.k_LETTERS)))))
    (x_one (x_ret e_bl))
    x_nil)
    (x_cons (x_for O.hp O.calm (pi_str (e_var 0)) src_str (g_name 1 nd)
    (x_one (x_if (PW.pt (w_and (t_cmp (or_notIn O) f_notIn (e_var 1) (e_glob T.k_LETTERS)) (w_and1 (t_cmp (or_notIn O) f_notIn (e_var 1) (e_glob T.k_DIGITS)))))
    (x_one (x_ret e_bl))
    x_nil)) (plain_name _))
    (x_one (x_ret e_bl))))
theorem H_is_full (T : Facts w K mg) : Has P w K mg base "is_full" 1 2 m_is_full := by
  obtain ⟨fd, F⟩ := T.d_is_full
  have S : FnScope ["text", "parts"] ["text"] (defScope st_is_full) := ⟨rfl, rfl, rfl, by decide +kernel, rfl, by decide +kernel, by decide +kernel⟩
  have nd := S.nd
  have h_is_name := H_is_name (P := P) (base := base) T
  refine (Has.of (k := 1) F T.g_is_full S (fun _ _ _ _ _ _ us hl => match us, hl with | [_], _ => rfl) fun cdv A outer s H E O => ?_).pureD
  exact (x_cons (x_set 1 nd (e_split (e_var 0) e_str))
    (x_one (x_ret (e_and (e_cmp (or_eq O) f_eq (e_callB or_len f_len rfl T.b_len (by decide +kernel) (a_cons (e_var 1) a_nil)) e_int) (e_and (e_call O h_is_name (by omega) (a_cons (e_ix (or_ix O) f_ix (e_var 1) e_int) a_nil) (cons_n nil_n)) (e_one (e_call O h_is_name (by omega) (a_cons (e_ix (or_ix O) f_ix (e_var 1) e_int) a_nil) (cons_n nil_n))))))))
theorem H_is_word (T : Facts w K mg) : Has P w K mg base "is_word" 1 1 m_is_word := by
  obtain ⟨fd, F⟩ := T.d_is_word
  have S : FnScope ["n"] ["n"] (defScope st_is_word) := ⟨rfl, rfl, rfl, by decide +kernel, rfl, by decide +kernel, by decide +kernel⟩
  have nd := S.nd
  refine (Has.of (k := 0) F T.g_is_word S (fun _ _ _ _ _ _ us hl => match us, hl with | [_], _ => rfl) fun cdv A outer s H E O => ?_).pureD
  exact (x_one (x_ret (e_chain op_le op_le f_le f_le (e_glob T.k_LEAST_WORD) (e_var 0) (e_glob T.k_GREATEST_WORD))))
theorem H_part_of (T : Facts w K mg) : Has P w K mg base "part_of" 1 1 m_part_of := by
  obtain ⟨fd, F⟩ := T.d_part_of
  have S : FnScope ["full"] ["full"] (defScope st_part_of) := ⟨rfl, rfl, rfl, by decide +kernel, rfl, by decide +kernel, by decide +kernel⟩
  have nd := S.nd
  refine (Has.of (k := 0) F T.g_part_of S (fun _ _ _ _ _ _ us hl => match us, hl with | [_], _ => rfl) fun cdv A outer s H E O => ?_).pureD
  exact (x_one (x_ret (e_ix (or_ix O) f_ix (e_split (e_var 0) e_str) e_int)))
theorem H_own (T : Facts w K mg) : Has P w K mg base "own" 2 1 m_own := by
  obtain ⟨fd, F⟩ := T.d_own
  have S : FnScope ["part", "name"] ["part", "name"] (defScope st_own) := ⟨rfl, rfl, rfl, by decide +kernel, rfl, by decide +kernel, by decide +kernel⟩
  have nd := S.nd
  refine (Has.of (k := 0) F T.g_own S (fun _ _ _ _ _ _ us hl => match us, hl with | [_, _], _ => rfl) fun cdv A outer s H E O => ?_).pureD
  exact (x_one (x_ret (e_bin or_add f_add (e_bin or_add f_add (e_ix (or_ix O) f_ix (e_var 0) e_int) e_str) (e_var 1))))
theorem H_record_of (T : Facts w K mg) : Has P w K mg base "record_of" 2 2 m_record_of := by
  obtain ⟨fd, F⟩ := T.d_record_of
  have S : FnScope ["part", "full", "name", "fields", "use"] ["part", "full"] (defScope st_record_of) := ⟨rfl, rfl, rfl, by decide +kernel, rfl, by decide +kernel, by decide +kernel⟩
  have nd := S.nd
  have h_own := H_own (P := P) (base := base) T
  refine (Has.of (k := 1) F T.g_record_of S (fun _ _ _ _ _ _ us hl => match us, hl with | [_, _], _ => rfl) fun cdv A outer s H E O => ?_).pureD
  exact (x_cons (x_for O.hp O.calm (pi_sq (e_ix (or_ix O) f_ix (e_var 0) e_int)) src_sq (g_tup O.calm (gs_cons (g_name 2 nd) (gs_cons (g_name 3 nd) gs_nil)) (hok := gsq_names [2, 3]))
    (x_one (x_if (t_cmp (or_eq O) f_eq (e_call O h_own (by omega) (a_cons (e_var 0) (a_cons (e_var 2) a_nil)) (cons_n (cons_n nil_n))) (e_var 1))
    (x_one (x_ret (e_var 3)))
    x_nil)) (plain_names [2, 3]))
    (x_cons (x_for O.hp O.calm (pi_sq (e_ix (or_ix O) f_ix (e_var 0) e_int)) src_sq (g_name 4 nd)
    (x_one (x_if (PW.pt (w_and (t_cmp (or_eq O) f_eq (e_ix (or_ix O) f_ix (e_var 4) e_int) e_str) (w_and1 (t_cmp (or_eq O) f_eq (e_ix (or_ix O) f_ix (e_var 4) e_int) (e_var 1)))))
    (x_one (x_ret (e_ix (or_ix O) f_ix (e_var 4) e_int)))
    x_nil)) (plain_name _))
    (x_one (x_ret e_non))))
theorem H_signature (T : Facts w K mg) : Has P w K mg base "signature" 2 2 m_signature := by
  obtain ⟨fd, F⟩ := T.d_signature
  have S : FnScope ["part", "full", "function", "use"] ["part", "full"] (defScope st_signature) := ⟨rfl, rfl, rfl, by decide +kernel, rfl, by decide +kernel, by decide +kernel⟩
  have nd := S.nd
  have h_own := H_own (P := P) (base := base) T
  refine (Has.of (k := 1) F T.g_signature S (fun _ _ _ _ _ _ us hl => match us, hl with | [_, _], _ => rfl) fun cdv A outer s H E O => ?_).pureD
  exact (x_cons (x_for O.hp O.calm (pi_sq (e_ix (or_ix O) f_ix (e_var 0) e_int)) src_sq (g_name 2 nd)
    (x_one (x_if (t_cmp (or_eq O) f_eq (e_call O h_own (by omega) (a_cons (e_var 0) (a_cons (e_ix (or_ix O) f_ix (e_var 2) e_int) a_nil)) (cons_n (cons_n nil_n))) (e_var 1))
    (x_one (x_ret (e_tup (a_cons (e_ix (or_ix O) f_ix (e_var 2) e_int) (a_cons (e_ix (or_ix O) f_ix (e_var 2) e_int) a_nil)))))
    x_nil)) (plain_name _))
    (x_cons (x_for O.hp O.calm (pi_sq (e_ix (or_ix O) f_ix (e_var 0) e_int)) src_sq (g_name 3 nd)
    (x_one (x_if (PW.pt (w_and (t_cmp (or_eq O) f_eq (e_ix (or_ix O) f_ix (e_var 3) e_int) e_str) (w_and1 (t_cmp (or_eq O) f_eq (e_ix (or_ix O) f_ix (e_var 3) e_int) (e_var 1)))))
    (x_one (x_ret (e_tup (a_cons (e_ix (or_ix O) f_ix (e_var 3) e_int) (a_cons (e_ix (or_ix O) f_ix (e_var 3) e_int) a_nil)))))
    x_nil)) (plain_name _))
    (x_one (x_ret e_non))))
theorem H_is_type (T : Facts w K mg) : Has P w K mg base "is_type" 2 3 m_is_type := by
  obtain ⟨fd, F⟩ := T.d_is_type
  have S : FnScope ["part", "text"] ["part", "text"] (defScope st_is_type) := ⟨rfl, rfl, rfl, by decide +kernel, rfl, by decide +kernel, by decide +kernel⟩
  have nd := S.nd
  have h_record_of := H_record_of (P := P) (base := base) T
  refine (Has.of (k := 2) F T.g_is_type S (fun _ _ _ _ _ _ us hl => match us, hl with | [_, _], _ => rfl) fun cdv A outer s H E O => ?_).pureD
  exact (x_one (x_ret (e_or (e_cmp (or_in O) f_in (e_var 1) (e_tup (a_cons (e_glob T.k_INT) (a_cons (e_glob T.k_INTS) a_nil)))) (e_one (e_cmp op_notN f_notN (e_call O h_record_of (by omega) (a_cons (e_var 0) (a_cons (e_var 1) a_nil)) (cons_n (cons_n nil_n))) e_non)))))
theorem H_are_types (T : Facts w K mg) : Has P w K mg base "are_types" 3 4 m_are_types := by
  obtain ⟨fd, F⟩ := T.d_are_types
  have S : FnScope ["part", "types", "most", "text"] ["part", "types", "most"] (defScope st_are_types) := ⟨rfl, rfl, rfl, by decide +kernel, rfl, by decide +kernel, by decide +kernel⟩
  have nd := S.nd
  have h_is_type := H_is_type (P := P) (base := base) T
  refine (Has.of (k := 3) F T.g_are_types S (fun _ _ _ _ _ _ us hl => match us, hl with | [_, _, _], _ => rfl) fun cdv A outer s H E O => ?_).pureD
  exact (x_one (x_ret (e_and (e_cmp op_le f_le (e_callB or_len f_len rfl T.b_len (by decide +kernel) (a_cons (e_var 1) a_nil)) (e_var 2)) (e_one (e_cmp (or_eq O) f_eq (e_callB or_len f_len rfl T.b_len (by decide +kernel) (a_cons (e_lc (own := [("text", 3)]) O.calm nd (pi_sq (e_var 1)) src_sq (blkOk_by (by kernel_rfl)) (fun s H C cl fp => blkG O fun O => (gw_name 3 (by decide) nd)) (fun s H C cl fp => blkT O fun O => (ts_one (t_not (t_val (e_call O h_is_type (by omega) (a_cons (e_var 0) (a_cons (e_var 3) a_nil)) (cons_n (cons_n nil_n))))))) (fun s H C cl fp => blkE O fun O => e_int)) a_nil)) e_int)))))
theorem H_is_result (T : Facts w K mg) : Has P w K mg base "is_result" 2 4 m_is_result := by
  obtain ⟨fd, F⟩ := T.d_is_result
  have S : FnScope ["part", "text"] ["part", "text"] (defScope st_is_result) := ⟨rfl, rfl, rfl, by decide +kernel, rfl, by decide +kernel, by decide +kernel⟩
  have nd := S.nd
  have h_is_type := H_is_type (P := P) (base := base) T
  refine (Has.of (k := 3) F T.g_is_result S (fun _ _ _ _ _ _ us hl => match us, hl with | [_, _], _ => rfl) fun cdv A outer s H E O => ?_).pureD
  exact (x_one (x_ret (e_or (e_cmp (or_eq O) f_eq (e_var 1) (e_glob T.k_NO_RESULT)) (e_one (e_call O h_is_type (by omega) (a_cons (e_var 0) (a_cons (e_var 1) a_nil)) (cons_n (cons_n nil_n)))))))
theorem H_are_different (T : Facts w K mg) : Has P w K mg base "are_different" 1 1 m_are_different := by
  obtain ⟨fd, F⟩ := T.d_are_different
  have S : FnScope ["names"] ["names"] (defScope st_are_different) := ⟨rfl, rfl, rfl, by decide +kernel, rfl, by decide +kernel, by decide +kernel⟩
  have nd := S.nd
  refine (Has.of (k := 0) F T.g_are_different S (fun _ _ _ _ _ _ us hl => match us, hl with | [_], _ => rfl) fun cdv A outer s H E O => ?_).pureD
  exact (x_one (x_ret (e_cmp (or_eq O) f_eq (e_lenSet O rfl T.b_len rfl T.b_set (e_var 0)) (e_callB or_len f_len rfl T.b_len (by decide +kernel) (a_cons (e_var 0) a_nil)))))
theorem H_is_instruction (T : Facts w K mg) : Has P w K mg base "is_instruction" 1 3 m_is_instruction := by
  obtain ⟨fd, F⟩ := T.d_is_instruction
  have S : FnScope ["instruction", "word", "rest"] ["instruction"] (defScope st_is_instruction) := ⟨rfl, rfl, rfl, by decide +kernel, rfl, by decide +kernel, by decide +kernel⟩
  have nd := S.nd
  have h_is_full := H_is_full (P := P) (base := base) T
  have h_is_word := H_is_word (P := P) (base := base) T
  refine (Has.of (k := 2) F T.g_is_instruction S (fun _ _ _ _ _ _ us hl => match us, hl with | [_], _ => rfl) fun cdv A outer s H E O => ?_).pureD
  exact (x_cons (x_set 1 nd (e_ix (or_ix O) f_ix (e_var 0) e_int))
    (x_cons (x_set 2 nd (e_sl (e_var 0) (o_some e_int) o_none))
    (x_cons (x_if (t_cmp (or_in O) f_in (e_var 1) (e_glob T.k_PLAIN))
    (x_one (x_ret (e_cmp (or_eq O) f_eq (e_callB or_len f_len rfl T.b_len (by decide +kernel) (a_cons (e_var 2) a_nil)) e_int)))
    x_nil)
    (x_cons (x_if (t_cmp (or_in O) f_in (e_var 1) (e_glob T.k_FIELDS))
    (x_one (x_ret (e_and (e_cmp (or_eq O) f_eq (e_callB or_len f_len rfl T.b_len (by decide +kernel) (a_cons (e_var 2) a_nil)) e_int) (e_and (e_call O h_is_full (by omega) (a_cons (e_ix (or_ix O) f_ix (e_var 2) e_int) a_nil) (cons_n nil_n)) (e_one (e_chain op_le or_lt f_le f_lt e_int (e_ix (or_ix O) f_ix (e_var 2) e_int) (e_glob T.k_MOST_FIELDS)))))))
    x_nil)
    (x_cons (x_if (t_cmp (or_ne O) f_ne (e_callB or_len f_len rfl T.b_len (by decide +kernel) (a_cons (e_var 2) a_nil)) e_int)
    (x_one (x_ret e_bl))
    x_nil)
    (x_cons (x_if (t_cmp (or_eq O) f_eq (e_var 1) e_str)
    (x_one (x_ret (e_call O h_is_word (by omega) (a_cons (e_ix (or_ix O) f_ix (e_var 2) e_int) a_nil) (cons_n nil_n))))
    x_nil)
    (x_cons (x_if (t_cmp (or_in O) f_in (e_var 1) (e_tup (a_cons e_str (a_cons e_str a_nil))))
    (x_one (x_ret (e_chain op_le or_lt f_le f_lt e_int (e_ix (or_ix O) f_ix (e_var 2) e_int) (e_glob T.k_MOST_SLOTS))))
    x_nil)
    (x_cons (x_if (t_cmp (or_in O) f_in (e_var 1) (e_tup (a_cons e_str (a_cons e_str a_nil))))
    (x_one (x_ret (e_chain op_le or_lt f_le f_lt e_int (e_ix (or_ix O) f_ix (e_var 2) e_int) (e_glob T.k_MOST_PLACES))))
    x_nil)
    (x_cons (x_if (t_cmp (or_eq O) f_eq (e_var 1) e_str)
    (x_one (x_ret (e_or (e_cmp (or_eq O) f_eq (e_ix (or_ix O) f_ix (e_var 2) e_int) (e_glob T.k_INTS)) (e_one (e_call O h_is_full (by omega) (a_cons (e_ix (or_ix O) f_ix (e_var 2) e_int) a_nil) (cons_n nil_n))))))
    x_nil)
    (x_one (x_ret (e_and (e_cmp (or_in O) f_in (e_var 1) (e_tup (a_cons e_str (a_cons e_str a_nil)))) (e_one (e_call O h_is_full (by omega) (a_cons (e_ix (or_ix O) f_ix (e_var 2) e_int) a_nil) (cons_n nil_n)))))))))))))))
theorem H_is_function (T : Facts w K mg) : Has P w K mg base "is_function" 2 5 m_is_function := by
  obtain ⟨fd, F⟩ := T.d_is_function
  have S : FnScope ["part", "function", "name", "parameters", "result", "slots", "code", "instruction"] ["part", "function"] (defScope st_is_function) := ⟨rfl, rfl, rfl, by decide +kernel, rfl, by decide +kernel, by decide +kernel⟩
  have nd := S.nd
  have h_are_types := H_are_types (P := P) (base := base) T
  have h_is_instruction := H_is_instruction (P := P) (base := base) T
  have h_is_name := H_is_name (P := P) (base := base) T
  have h_is_result := H_is_result (P := P) (base := base) T
  refine (Has.of (k := 4) F T.g_is_function S (fun _ _ _ _ _ _ us hl => match us, hl with | [_, _], _ => rfl) fun cdv A outer s H E O => ?_).pureD
  exact (x_cons (x_asg (e_var 1) (g_tup O.calm (gs_cons (g_name 2 nd) (gs_cons (g_name 3 nd) (gs_cons (g_name 4 nd) (gs_cons (g_name 5 nd) (gs_cons (g_name 6 nd) gs_nil))))) (hok := gsq_names [2, 3, 4, 5, 6])) (hnx := (plain_names [2, 3, 4, 5, 6])))
    (x_cons (x_if (PW.pt (w_or (t_not (t_val (e_call O h_is_name (by omega) (a_cons (e_var 2) a_nil) (cons_n nil_n)))) (w_or (t_not (t_val (e_call O h_are_types (by omega) (a_cons (e_var 0) (a_cons (e_var 3) (a_cons (e_glob T.k_MOST_FIELDS) a_nil))) (cons_n (cons_n (cons_n nil_n)))))) (w_or1 (t_not (t_val (e_call O h_are_types (by omega) (a_cons (e_var 0) (a_cons (e_var 5) (a_cons (e_glob T.k_MOST_FIELDS) a_nil))) (cons_n (cons_n (cons_n nil_n))))))))))
    (x_one (x_ret e_bl))
    x_nil)
    (x_cons (x_if (PW.pt (w_or (t_not (t_val (e_call O h_is_result (by omega) (a_cons (e_var 0) (a_cons (e_var 4) a_nil)) (cons_n (cons_n nil_n))))) (w_or1 (t_cmp op_gt f_gt (e_callB or_len f_len rfl T.b_len (by decide +kernel) (a_cons (e_var 6) a_nil)) (e_glob T.k_MOST_PLACES)))))
    (x_one (x_ret e_bl))
    x_nil)
    (x_one (x_ret (e_cmp (or_eq O) f_eq (e_callB or_len f_len rfl T.b_len (by decide +kernel) (a_cons (e_lc (own := [("instruction", 7)]) O.calm nd (pi_sq (e_var 6)) src_sq (blkOk_by (by kernel_rfl)) (fun s H C cl fp => blkG O fun O => (gw_name 7 (by decide) nd)) (fun s H C cl fp => blkT O fun O => (ts_one (t_not (t_val (e_call O h_is_instruction (by omega) (a_cons (e_var 7) a_nil) (cons_n nil_n)))))) (fun s H C cl fp => blkE O fun O => e_int)) a_nil)) e_int))))))
theorem H_is_use (T : Facts w K mg) : Has P w K mg base "is_use" 2 5 m_is_use := by
  obtain ⟨fd, F⟩ := T.d_is_use
  have S : FnScope ["part", "use"] ["part", "use"] (defScope st_is_use) := ⟨rfl, rfl, rfl, by decide +kernel, rfl, by decide +kernel, by decide +kernel⟩
  have nd := S.nd
  have h_are_types := H_are_types (P := P) (base := base) T
  have h_is_full := H_is_full (P := P) (base := base) T
  have h_is_result := H_is_result (P := P) (base := base) T
  have h_part_of := H_part_of (P := P) (base := base) T
  refine (Has.of (k := 4) F T.g_is_use S (fun _ _ _ _ _ _ us hl => match us, hl with | [_, _], _ => rfl) fun cdv A outer s H E O => ?_).pureD
  exact (x_cons (x_if (PW.pt (w_or (t_not (t_val (e_call O h_is_full (by omega) (a_cons (e_ix (or_ix O) f_ix (e_var 1) e_int) a_nil) (cons_n nil_n)))) (w_or1 (t_cmp (or_eq O) f_eq (e_call O h_part_of (by omega) (a_cons (e_ix (or_ix O) f_ix (e_var 1) e_int) a_nil) (cons_n nil_n)) (e_ix (or_ix O) f_ix (e_var 0) e_int)))))
    (x_one (x_ret e_bl))
    x_nil)
    (x_cons (x_if (t_cmp (or_eq O) f_eq (e_ix (or_ix O) f_ix (e_var 1) e_int) e_str)
    (x_one (x_ret (e_and (e_cmp (or_eq O) f_eq (e_callB or_len f_len rfl T.b_len (by decide +kernel) (a_cons (e_var 1) a_nil)) e_int) (e_one (e_call O h_are_types (by omega) (a_cons (e_var 0) (a_cons (e_ix (or_ix O) f_ix (e_var 1) e_int) (a_cons (e_glob T.k_MOST_FIELDS) a_nil))) (cons_n (cons_n (cons_n nil_n))))))))
    x_nil)
    (x_one (x_ret (e_and (e_cmp (or_eq O) f_eq (e_ix (or_ix O) f_ix (e_var 1) e_int) e_str) (e_and (e_cmp (or_eq O) f_eq (e_callB or_len f_len rfl T.b_len (by decide +kernel) (a_cons (e_var 1) a_nil)) e_int) (e_and (e_call O h_are_types (by omega) (a_cons (e_var 0) (a_cons (e_ix (or_ix O) f_ix (e_var 1) e_int) (a_cons (e_glob T.k_MOST_FIELDS) a_nil))) (cons_n (cons_n (cons_n nil_n)))) (e_one (e_call O h_is_result (by omega) (a_cons (e_var 0) (a_cons (e_ix (or_ix O) f_ix (e_var 1) e_int) a_nil)) (cons_n (cons_n nil_n)))))))))))
theorem H_is_open (T : Facts w K mg) : Has P w K mg base "is_open" 1 1 m_is_open := by
  obtain ⟨fd, F⟩ := T.d_is_open
  have S : FnScope ["part", "names", "k", "name", "record", "function"] ["part"] (defScope st_is_open) := ⟨rfl, rfl, rfl, by decide +kernel, rfl, by decide +kernel, by decide +kernel⟩
  have nd := S.nd
  refine (Has.of (k := 0) F T.g_is_open S (fun _ _ _ _ _ _ us hl => match us, hl with | [_], _ => rfl) fun cdv A outer s H E O => ?_).pureD
  exact (x_cons (x_set 1 nd (e_bin or_add f_add (e_lc (own := [("record", 4)]) O.calm nd (pi_sq (e_ix (or_ix O) f_ix (e_var 0) e_int)) src_sq (blkOk_by (by kernel_rfl)) (fun s H C cl fp => blkG O fun O => (gw_name 4 (by decide) nd)) (fun s H C cl fp => blkT O fun O => ts_nil) (fun s H C cl fp => blkE O fun O => (e_ix (or_ix O) f_ix (e_var 4) e_int))) (e_lc (own := [("function", 5)]) O.calm nd (pi_sq (e_ix (or_ix O) f_ix (e_var 0) e_int)) src_sq (blkOk_by (by kernel_rfl)) (fun s H C cl fp => blkG O fun O => (gw_name 5 (by decide) nd)) (fun s H C cl fp => blkT O fun O => ts_nil) (fun s H C cl fp => blkE O fun O => (e_ix (or_ix O) f_ix (e_var 5) e_int)))))
    (x_cons (x_for O.hp O.calm (pi_range1 rfl T.b_range (a_cons (e_callB or_len f_len rfl T.b_len (by decide +kernel) (a_cons (e_ix (or_ix O) f_ix (e_var 0) e_int) a_nil)) a_nil)) src_r1 (g_name 2 nd)
    (x_cons (x_set 3 nd (e_ix (or_ix O) f_ix (e_ix (or_ix O) f_ix (e_var 0) e_int) (e_var 2)))
    (x_one (x_if (PW.pt (w_or (t_cmp (or_ne O) f_ne (e_count (e_var 1) (a_cons (e_var 3) a_nil)) e_int) (w_or1 (PW.pt (w_and (t_cmp op_gt f_gt (e_var 2) e_int) (w_and1 (t_not (t_cmp or_lt f_lt (e_ix (or_ix O) f_ix (e_ix (or_ix O) f_ix (e_var 0) e_int) (e_bin op_sub f_sub (e_var 2) e_int)) (e_var 3)))))))))
    (x_one (x_ret e_bl))
    x_nil))) (plain_name _))
    (x_one (x_ret e_bl))))
theorem H_is_part (T : Facts w K mg) : Has P w K mg base "is_part" 1 6 m_is_part := by
  obtain ⟨fd, F⟩ := T.d_is_part
  have S : FnScope ["part", "name", "records", "uses", "functions", "_", "record", "fields", "use", "function"] ["part"] (defScope st_is_part) := ⟨rfl, rfl, rfl, by decide +kernel, rfl, by decide +kernel, by decide +kernel⟩
  have nd := S.nd
  have h_are_different := H_are_different (P := P) (base := base) T
  have h_are_types := H_are_types (P := P) (base := base) T
  have h_is_function := H_is_function (P := P) (base := base) T
  have h_is_name := H_is_name (P := P) (base := base) T
  have h_is_open := H_is_open (P := P) (base := base) T
  have h_is_use := H_is_use (P := P) (base := base) T
  refine (Has.of (k := 5) F T.g_is_part S (fun _ _ _ _ _ _ us hl => match us, hl with | [_], _ => rfl) fun cdv A outer s H E O => ?_).pureD
  exact (x_cons (x_asg (e_var 0) (g_tup O.calm (gs_cons (g_name 1 nd) (gs_cons (g_name 2 nd) (gs_cons (g_name 3 nd) (gs_cons (g_name 4 nd) (gs_cons (g_name 5 nd) gs_nil))))) (hok := gsq_names [1, 2, 3, 4, 5])) (hnx := (plain_names [1, 2, 3, 4, 5])))
    (x_cons (x_if (PW.pt (w_or (t_not (t_val (e_call O h_is_name (by omega) (a_cons (e_var 1) a_nil) (cons_n nil_n)))) (w_or (t_cmp op_gt f_gt (e_callB or_len f_len rfl T.b_len (by decide +kernel) (a_cons (e_var 2) a_nil)) (e_glob T.k_MOST_RECORDS)) (w_or (t_cmp op_gt f_gt (e_callB or_len f_len rfl T.b_len (by decide +kernel) (a_cons (e_var 3) a_nil)) (e_glob T.k_MOST_USES)) (w_or1 (t_cmp op_gt f_gt (e_callB or_len f_len rfl T.b_len (by decide +kernel) (a_cons (e_var 4) a_nil)) (e_glob T.k_MOST_FUNCTIONS)))))))
    (x_one (x_ret e_bl))
    x_nil)
    (x_cons (x_if (PW.pt (w_or (t_not (t_val (e_call O h_are_different (by omega) (a_cons (e_lc (own := [("record", 6)]) O.calm nd (pi_sq (e_var 2)) src_sq (blkOk_by (by kernel_rfl)) (fun s H C cl fp => blkG O fun O => (gw_name 6 (by decide) nd)) (fun s H C cl fp => blkT O fun O => ts_nil) (fun s H C cl fp => blkE O fun O => (e_ix (or_ix O) f_ix (e_var 6) e_int))) a_nil) (cons_n nil_n)))) (w_or1 (t_not (t_val (e_call O h_are_different (by omega) (a_cons (e_lc (own := [("use", 8)]) O.calm nd (pi_sq (e_var 3)) src_sq (blkOk_by (by kernel_rfl)) (fun s H C cl fp => blkG O fun O => (gw_name 8 (by decide) nd)) (fun s H C cl fp => blkT O fun O => ts_nil) (fun s H C cl fp => blkE O fun O => (e_ix (or_ix O) f_ix (e_var 8) e_int))) a_nil) (cons_n nil_n)))))))
    (x_one (x_ret e_bl))
    x_nil)
    (x_cons (x_if (t_not (t_val (e_call O h_are_different (by omega) (a_cons (e_lc (own := [("function", 9)]) O.calm nd (pi_sq (e_var 4)) src_sq (blkOk_by (by kernel_rfl)) (fun s H C cl fp => blkG O fun O => (gw_name 9 (by decide) nd)) (fun s H C cl fp => blkT O fun O => ts_nil) (fun s H C cl fp => blkE O fun O => (e_ix (or_ix O) f_ix (e_var 9) e_int))) a_nil) (cons_n nil_n))))
    (x_one (x_ret e_bl))
    x_nil)
    (x_cons (x_for O.hp O.calm (pi_sq (e_var 2)) src_sq (g_tup O.calm (gs_cons (g_name 6 nd) (gs_cons (g_name 7 nd) gs_nil)) (hok := gsq_names [6, 7]))
    (x_one (x_if (PW.pt (w_or (t_not (t_val (e_call O h_is_name (by omega) (a_cons (e_var 6) a_nil) (cons_n nil_n)))) (w_or1 (t_not (t_val (e_call O h_are_types (by omega) (a_cons (e_var 0) (a_cons (e_var 7) (a_cons (e_glob T.k_MOST_FIELDS) a_nil))) (cons_n (cons_n (cons_n nil_n)))))))))
    (x_one (x_ret e_bl))
    x_nil)) (plain_names [6, 7]))
    (x_cons (x_if (t_cmp op_gt f_gt (e_callB or_len f_len rfl T.b_len (by decide +kernel) (a_cons (e_lc (own := [("use", 8)]) O.calm nd (pi_sq (e_var 3)) src_sq (blkOk_by (by kernel_rfl)) (fun s H C cl fp => blkG O fun O => (gw_name 8 (by decide) nd)) (fun s H C cl fp => blkT O fun O => (ts_one (t_not (t_val (e_call O h_is_use (by omega) (a_cons (e_var 0) (a_cons (e_var 8) a_nil)) (cons_n (cons_n nil_n))))))) (fun s H C cl fp => blkE O fun O => e_int)) a_nil)) e_int)
    (x_one (x_ret e_bl))
    x_nil)
    (x_one (x_ret (e_and (e_cmp (or_eq O) f_eq (e_callB or_len f_len rfl T.b_len (by decide +kernel) (a_cons (e_lc (own := [("function", 9)]) O.calm nd (pi_sq (e_var 4)) src_sq (blkOk_by (by kernel_rfl)) (fun s H C cl fp => blkG O fun O => (gw_name 9 (by decide) nd)) (fun s H C cl fp => blkT O fun O => (ts_one (t_not (t_val (e_call O h_is_function (by omega) (a_cons (e_var 0) (a_cons (e_var 9) a_nil)) (cons_n (cons_n nil_n))))))) (fun s H C cl fp => blkE O fun O => e_int)) a_nil)) e_int) (e_one (e_call O h_is_open (by omega) (a_cons (e_var 0) a_nil) (cons_n nil_n))))))))))))
theorem H_slots_of (T : Facts w K mg) : Has P w K mg base "slots_of" 1 1 m_slots_of := by
  obtain ⟨fd, F⟩ := T.d_slots_of
  have S : FnScope ["function"] ["function"] (defScope st_slots_of) := ⟨rfl, rfl, rfl, by decide +kernel, rfl, by decide +kernel, by decide +kernel⟩
  have nd := S.nd
  refine (Has.of (k := 0) F T.g_slots_of S (fun _ _ _ _ _ _ us hl => match us, hl with | [_], _ => rfl) fun cdv A outer s H E O => ?_).pureD
  exact (x_one (x_ret (e_bin or_add f_add (e_callTy call_tuple_of f_tup rfl T.b_tuple (by decide +kernel) (a_cons (e_ix (or_ix O) f_ix (e_var 0) e_int) a_nil)) (e_callTy call_tuple_of f_tup rfl T.b_tuple (by decide +kernel) (a_cons (e_ix (or_ix O) f_ix (e_var 0) e_int) a_nil)))))
theorem H_taken (T : Facts w K mg) : Has P w K mg base "taken" 2 1 m_taken := by
  obtain ⟨fd, F⟩ := T.d_taken
  have S : FnScope ["stack", "types", "size"] ["stack", "types"] (defScope st_taken) := ⟨rfl, rfl, rfl, by decide +kernel, rfl, by decide +kernel, by decide +kernel⟩
  have nd := S.nd
  refine (Has.of (k := 0) F T.g_taken S (fun _ _ _ _ _ _ us hl => match us, hl with | [_, _], _ => rfl) fun cdv A outer s H E O => ?_).pureD
  exact (x_cons (x_set 2 nd (e_bin op_sub f_sub (e_callB or_len f_len rfl T.b_len (by decide +kernel) (a_cons (e_var 0) a_nil)) (e_callB or_len f_len rfl T.b_len (by decide +kernel) (a_cons (e_var 1) a_nil))))
    (x_cons (x_if (PW.pt (w_or (t_cmp or_lt f_lt (e_var 2) e_int) (w_or1 (t_cmp (or_ne O) f_ne (e_callTy call_tuple_of f_tup rfl T.b_tuple (by decide +kernel) (a_cons (e_sl (e_var 0) (o_some (e_var 2)) o_none) a_nil)) (e_callTy call_tuple_of f_tup rfl T.b_tuple (by decide +kernel) (a_cons (e_var 1) a_nil))))))
    (x_one (x_ret e_non))
    x_nil)
    (x_one (x_ret (e_callTy call_tuple_of f_tup rfl T.b_tuple (by decide +kernel) (a_cons (e_sl (e_var 0) o_none (o_some (e_var 2))) a_nil))))))
theorem H_changed (T : Facts w K mg) : Has P w K mg base "changed" 3 2 m_changed := by
  obtain ⟨fd, F⟩ := T.d_changed
  have S : FnScope ["stack", "takes", "leaves", "rest"] ["stack", "takes", "leaves"] (defScope st_changed) := ⟨rfl, rfl, rfl, by decide +kernel, rfl, by decide +kernel, by decide +kernel⟩
  have nd := S.nd
  have h_taken := H_taken (P := P) (base := base) T
  refine (Has.of (k := 1) F T.g_changed S (fun _ _ _ _ _ _ us hl => match us, hl with | [_, _, _], _ => rfl) fun cdv A outer s H E O => ?_).pureD
  exact (x_cons (x_set 3 nd (e_call O h_taken (by omega) (a_cons (e_var 0) (a_cons (e_var 1) a_nil)) (cons_n (cons_n nil_n))))
    (x_one (x_ret (e_if (t_cmp op_isN f_isN (e_var 3) e_non) e_non (e_bin or_add f_add (e_var 3) (e_callTy call_tuple_of f_tup rfl T.b_tuple (by decide +kernel) (a_cons (e_var 2) a_nil)))))))
theorem H_with_slot (T : Facts w K mg) : Has P w K mg base "with_slot" 4 2 m_with_slot := by
  obtain ⟨fd, F⟩ := T.d_with_slot
  have S : FnScope ["function", "word", "i", "stack", "slots"] ["function", "word", "i", "stack"] (defScope st_with_slot) := ⟨rfl, rfl, rfl, by decide +kernel, rfl, by decide +kernel, by decide +kernel⟩
  have nd := S.nd
  have h_slots_of := H_slots_of (P := P) (base := base) T
  have h_taken := H_taken (P := P) (base := base) T
  refine (Has.of (k := 1) F T.g_with_slot S (fun _ _ _ _ _ _ us hl => match us, hl with | [_, _, _, _], _ => rfl) fun cdv A outer s H E O => ?_).pureD
  exact (x_cons (x_set 4 nd (e_call O h_slots_of (by omega) (a_cons (e_var 0) a_nil) (cons_n nil_n)))
    (x_cons (x_if (t_cmp op_ge f_ge (e_var 2) (e_callB or_len f_len rfl T.b_len (by decide +kernel) (a_cons (e_var 4) a_nil)))
    (x_one (x_ret e_non))
    x_nil)
    (x_one (x_ret (e_if (t_cmp (or_eq O) f_eq (e_var 1) e_str) (e_bin or_add f_add (e_callTy call_tuple_of f_tup rfl T.b_tuple (by decide +kernel) (a_cons (e_var 3) a_nil)) (e_tup (a_cons (e_ix (or_ix O) f_ix (e_var 4) (e_var 2)) a_nil))) (e_call O h_taken (by omega) (a_cons (e_var 3) (a_cons (e_tup (a_cons (e_ix (or_ix O) f_ix (e_var 4) (e_var 2)) a_nil)) a_nil)) (cons_n (cons_n nil_n))))))))
theorem H_with_thing (T : Facts w K mg) : Has P w K mg base "with_thing" 3 3 m_with_thing := by
  obtain ⟨fd, F⟩ := T.d_with_thing
  have S : FnScope ["part", "instruction", "stack", "word", "full", "fields", "field"] ["part", "instruction", "stack"] (defScope st_with_thing) := ⟨rfl, rfl, rfl, by decide +kernel, rfl, by decide +kernel, by decide +kernel⟩
  have nd := S.nd
  have h_changed := H_changed (P := P) (base := base) T
  have h_record_of := H_record_of (P := P) (base := base) T
  refine (Has.of (k := 2) F T.g_with_thing S (fun _ _ _ _ _ _ us hl => match us, hl with | [_, _, _], _ => rfl) fun cdv A outer s H E O => ?_).pureD
  exact (x_cons (x_par2 3 4 O.calm nd (a_cons (e_ix (or_ix O) f_ix (e_var 1) e_int) (a_cons (e_ix (or_ix O) f_ix (e_var 1) e_int) a_nil)))
    (x_cons (x_set 5 nd (e_call O h_record_of (by omega) (a_cons (e_var 0) (a_cons (e_var 4) a_nil)) (cons_n (cons_n nil_n))))
    (x_cons (x_if (t_cmp (or_eq O) f_eq (e_var 3) e_str)
    (x_one (x_ret (e_if (PW.pt (w_or (t_cmp (or_eq O) f_eq (e_var 4) (e_glob T.k_INTS)) (w_or1 (t_cmp op_notN f_notN (e_var 5) e_non)))) (e_bin or_add f_add (e_callTy call_tuple_of f_tup rfl T.b_tuple (by decide +kernel) (a_cons (e_var 2) a_nil)) (e_tup (a_cons (e_var 4) a_nil))) e_non)))
    x_nil)
    (x_cons (x_if (t_cmp op_isN f_isN (e_var 5) e_non)
    (x_one (x_ret e_non))
    x_nil)
    (x_cons (x_if (t_cmp (or_eq O) f_eq (e_var 3) e_str)
    (x_one (x_ret (e_bin or_add f_add (e_callTy call_tuple_of f_tup rfl T.b_tuple (by decide +kernel) (a_cons (e_var 2) a_nil)) (e_tup (a_cons (e_var 4) a_nil)))))
    x_nil)
    (x_cons (x_if (t_cmp op_ge f_ge (e_ix (or_ix O) f_ix (e_var 1) e_int) (e_callB or_len f_len rfl T.b_len (by decide +kernel) (a_cons (e_var 5) a_nil)))
    (x_one (x_ret e_non))
    x_nil)
    (x_cons (x_set 6 nd (e_ix (or_ix O) f_ix (e_var 5) (e_ix (or_ix O) f_ix (e_var 1) e_int)))
    (x_one (x_ret (e_if (t_cmp (or_eq O) f_eq (e_var 3) e_str) (e_call O h_changed (by omega) (a_cons (e_var 2) (a_cons (e_tup (a_cons (e_var 4) a_nil)) (a_cons (e_tup (a_cons (e_var 6) a_nil)) a_nil))) (cons_n (cons_n (cons_n nil_n)))) (e_call O h_changed (by omega) (a_cons (e_var 2) (a_cons (e_tup (a_cons (e_var 4) (a_cons (e_var 6) a_nil))) (a_cons (e_tup a_nil) a_nil))) (cons_n (cons_n (cons_n nil_n))))))))))))))
theorem H_with_top (T : Facts w K mg) : Has P w K mg base "with_top" 2 1 m_with_top := by
  obtain ⟨fd, F⟩ := T.d_with_top
  have S : FnScope ["word", "stack"] ["word", "stack"] (defScope st_with_top) := ⟨rfl, rfl, rfl, by decide +kernel, rfl, by decide +kernel, by decide +kernel⟩
  have nd := S.nd
  refine (Has.of (k := 0) F T.g_with_top S (fun _ _ _ _ _ _ us hl => match us, hl with | [_, _], _ => rfl) fun cdv A outer s H E O => ?_).pureD
  exact (x_cons (x_if (t_cmp (or_eq O) f_eq (e_var 0) e_str)
    (x_one (x_ret (e_if (t_cmp op_gt f_gt (e_callB or_len f_len rfl T.b_len (by decide +kernel) (a_cons (e_var 1) a_nil)) e_int) (e_callTy call_tuple_of f_tup rfl T.b_tuple (by decide +kernel) (a_cons (e_sl (e_var 1) o_none (o_some (e_un un_neg f_neg e_int))) a_nil)) e_non)))
    x_nil)
    (x_cons (x_if (t_cmp (or_eq O) f_eq (e_var 0) e_str)
    (x_one (x_ret (e_if (t_cmp op_gt f_gt (e_callB or_len f_len rfl T.b_len (by decide +kernel) (a_cons (e_var 1) a_nil)) e_int) (e_bin or_add f_add (e_callTy call_tuple_of f_tup rfl T.b_tuple (by decide +kernel) (a_cons (e_var 1) a_nil)) (e_tup (a_cons (e_ix (or_ix O) f_ix (e_var 1) (e_un un_neg f_neg e_int)) a_nil))) e_non)))
    x_nil)
    (x_cons (x_if (t_cmp (or_eq O) f_eq (e_var 0) e_str)
    (x_one (x_ret (e_if (PW.pt (w_and (t_cmp op_gt f_gt (e_callB or_len f_len rfl T.b_len (by decide +kernel) (a_cons (e_var 1) a_nil)) e_int) (w_and1 (t_cmp (or_ne O) f_ne (e_ix (or_ix O) f_ix (e_var 1) (e_un un_neg f_neg e_int)) (e_glob T.k_INT))))) (e_bin or_add f_add (e_callTy call_tuple_of f_tup rfl T.b_tuple (by decide +kernel) (a_cons (e_sl (e_var 1) o_none (o_some (e_un un_neg f_neg e_int))) a_nil)) (e_tup (a_cons (e_glob T.k_INT) a_nil))) e_non)))
    x_nil)
    (x_cons (x_if (PW.pt (w_or (t_cmp or_lt f_lt (e_callB or_len f_len rfl T.b_len (by decide +kernel) (a_cons (e_var 1) a_nil)) e_int) (w_or (t_cmp (or_eq O) f_eq (e_ix (or_ix O) f_ix (e_var 1) (e_un un_neg f_neg e_int)) (e_glob T.k_INT)) (w_or1 (t_cmp (or_ne O) f_ne (e_ix (or_ix O) f_ix (e_var 1) (e_un un_neg f_neg e_int)) (e_ix (or_ix O) f_ix (e_var 1) (e_un un_neg f_neg e_int)))))))
    (x_one (x_ret e_non))
    x_nil)
    (x_one (x_ret (e_bin or_add f_add (e_callTy call_tuple_of f_tup rfl T.b_tuple (by decide +kernel) (a_cons (e_sl (e_var 1) o_none (o_some (e_un un_neg f_neg e_int))) a_nil)) (e_tup (a_cons (e_glob T.k_INT) a_nil)))))))))
theorem H_with_call (T : Facts w K mg) : Has P w K mg base "with_call" 3 3 m_with_call := by
  obtain ⟨fd, F⟩ := T.d_with_call
  have S : FnScope ["part", "full", "stack", "found"] ["part", "full", "stack"] (defScope st_with_call) := ⟨rfl, rfl, rfl, by decide +kernel, rfl, by decide +kernel, by decide +kernel⟩
  have nd := S.nd
  have h_changed := H_changed (P := P) (base := base) T
  have h_signature := H_signature (P := P) (base := base) T
  refine (Has.of (k := 2) F T.g_with_call S (fun _ _ _ _ _ _ us hl => match us, hl with | [_, _, _], _ => rfl) fun cdv A outer s H E O => ?_).pureD
  exact (x_cons (x_set 3 nd (e_call O h_signature (by omega) (a_cons (e_var 0) (a_cons (e_var 1) a_nil)) (cons_n (cons_n nil_n))))
    (x_cons (x_if (t_cmp op_isN f_isN (e_var 3) e_non)
    (x_one (x_ret e_non))
    x_nil)
    (x_one (x_ret (e_call O h_changed (by omega) (a_cons (e_var 2) (a_cons (e_ix (or_ix O) f_ix (e_var 3) e_int) (a_cons (e_if (t_cmp (or_eq O) f_eq (e_ix (or_ix O) f_ix (e_var 3) e_int) (e_glob T.k_NO_RESULT)) (e_tup a_nil) (e_tup (a_cons (e_ix (or_ix O) f_ix (e_var 3) e_int) a_nil))) a_nil))) (cons_n (cons_n (cons_n nil_n))))))))
theorem H_stack_behind (T : Facts w K mg) : Has P w K mg base "stack_behind" 4 4 m_stack_behind := by
  obtain ⟨fd, F⟩ := T.d_stack_behind
  have S : FnScope ["part", "function", "instruction", "stack", "word"] ["part", "function", "instruction", "stack"] (defScope st_stack_behind) := ⟨rfl, rfl, rfl, by decide +kernel, rfl, by decide +kernel, by decide +kernel⟩
  have nd := S.nd
  have h_changed := H_changed (P := P) (base := base) T
  have h_with_call := H_with_call (P := P) (base := base) T
  have h_with_slot := H_with_slot (P := P) (base := base) T
  have h_with_thing := H_with_thing (P := P) (base := base) T
  have h_with_top := H_with_top (P := P) (base := base) T
  refine (Has.of (k := 3) F T.g_stack_behind S (fun _ _ _ _ _ _ us hl => match us, hl with | [_, _, _, _], _ => rfl) fun cdv A outer s H E O => ?_).pureD
  exact (x_cons (x_set 4 nd (e_ix (or_ix O) f_ix (e_var 2) e_int))
    (x_cons (x_if (t_cmp (or_in O) f_in (e_var 4) (e_glob T.k_SUMS))
    (x_one (x_ret (e_call O h_changed (by omega) (a_cons (e_var 3) (a_cons (e_tup (a_cons (e_glob T.k_INT) (a_cons (e_glob T.k_INT) a_nil))) (a_cons (e_tup (a_cons (e_glob T.k_INT) a_nil)) a_nil))) (cons_n (cons_n (cons_n nil_n))))))
    x_nil)
    (x_cons (x_if (t_tabIn T.t_FIXED (e_var 4))
    (x_one (x_ret (e_call O h_changed (by omega) (a_cons (e_var 3) (a_cons (e_ix (or_ix O) f_ix (e_tabIx T.t_FIXED (e_var 4)) e_int) (a_cons (e_ix (or_ix O) f_ix (e_tabIx T.t_FIXED (e_var 4)) e_int) a_nil))) (cons_n (cons_n (cons_n nil_n))))))
    x_nil)
    (x_cons (x_if (t_cmp (or_in O) f_in (e_var 4) (e_tup (a_cons e_str (a_cons e_str a_nil))))
    (x_one (x_ret (e_call O h_with_slot (by omega) (a_cons (e_var 1) (a_cons (e_var 4) (a_cons (e_ix (or_ix O) f_ix (e_var 2) e_int) (a_cons (e_var 3) a_nil)))) (cons_n (cons_n (cons_n (cons_n nil_n)))))))
    x_nil)
    (x_cons (x_if (t_cmp (or_in O) f_in (e_var 4) (e_tup (a_cons e_str (a_cons e_str (a_cons e_str (a_cons e_str a_nil))))))
    (x_one (x_ret (e_call O h_with_thing (by omega) (a_cons (e_var 0) (a_cons (e_var 2) (a_cons (e_var 3) a_nil))) (cons_n (cons_n (cons_n nil_n))))))
    x_nil)
    (x_cons (x_if (t_cmp (or_in O) f_in (e_var 4) (e_tup (a_cons e_str (a_cons e_str (a_cons e_str (a_cons e_str a_nil))))))
    (x_one (x_ret (e_call O h_with_top (by omega) (a_cons (e_var 4) (a_cons (e_var 3) a_nil)) (cons_n (cons_n nil_n)))))
    x_nil)
    (x_cons (x_if (t_cmp (or_eq O) f_eq (e_var 4) e_str)
    (x_one (x_ret (e_call O h_with_call (by omega) (a_cons (e_var 0) (a_cons (e_ix (or_ix O) f_ix (e_var 2) e_int) (a_cons (e_var 3) a_nil))) (cons_n (cons_n (cons_n nil_n))))))
    x_nil)
    (x_one (x_ret (e_if (t_cmp (or_eq O) f_eq (e_callTy call_tuple_of f_tup rfl T.b_tuple (by decide +kernel) (a_cons (e_var 3) a_nil)) (e_if (t_cmp (or_eq O) f_eq (e_ix (or_ix O) f_ix (e_var 1) e_int) (e_glob T.k_NO_RESULT)) (e_tup a_nil) (e_tup (a_cons (e_ix (or_ix O) f_ix (e_var 1) e_int) a_nil)))) (e_tup a_nil) e_non))))))))))
theorem H_steps_of (T : Facts w K mg) : Has P w K mg base "steps_of" 4 5 m_steps_of := by
  obtain ⟨fd, F⟩ := T.d_steps_of
  have S : FnScope ["part", "function", "place", "stack", "instruction", "behind"] ["part", "function", "place", "stack"] (defScope st_steps_of) := ⟨rfl, rfl, rfl, by decide +kernel, rfl, by decide +kernel, by decide +kernel⟩
  have nd := S.nd
  have h_stack_behind := H_stack_behind (P := P) (base := base) T
  refine (Has.of (k := 4) F T.g_steps_of S (fun _ _ _ _ _ _ us hl => match us, hl with | [_, _, _, _], _ => rfl) fun cdv A outer s H E O => ?_).pureD
  exact (x_cons (x_if (t_not (t_chain op_le or_lt f_le f_lt e_int (e_var 2) (e_callB or_len f_len rfl T.b_len (by decide +kernel) (a_cons (e_ix (or_ix O) f_ix (e_var 1) e_int) a_nil))))
    (x_one (x_ret e_non))
    x_nil)
    (x_cons (x_set 4 nd (e_ix (or_ix O) f_ix (e_ix (or_ix O) f_ix (e_var 1) e_int) (e_var 2)))
    (x_cons (x_set 5 nd (e_call O h_stack_behind (by omega) (a_cons (e_var 0) (a_cons (e_var 1) (a_cons (e_var 4) (a_cons (e_var 3) a_nil)))) (cons_n (cons_n (cons_n (cons_n nil_n))))))
    (x_cons (x_if (t_cmp op_isN f_isN (e_var 5) e_non)
    (x_one (x_ret e_non))
    x_nil)
    (x_cons (x_if (t_cmp (or_in O) f_in (e_ix (or_ix O) f_ix (e_var 4) e_int) (e_tup (a_cons e_str (a_cons e_str a_nil))))
    (x_one (x_ret (e_lst a_nil)))
    x_nil)
    (x_cons (x_if (t_cmp (or_eq O) f_eq (e_ix (or_ix O) f_ix (e_var 4) e_int) e_str)
    (x_one (x_ret (e_lst (a_cons (e_tup (a_cons (e_ix (or_ix O) f_ix (e_var 4) e_int) (a_cons (e_var 5) a_nil))) a_nil))))
    x_nil)
    (x_cons (x_if (PW.pt (w_and (t_cmp (or_eq O) f_eq (e_ix (or_ix O) f_ix (e_var 4) e_int) e_str) (w_and1 (t_cmp (or_ne O) f_ne (e_ix (or_ix O) f_ix (e_var 4) e_int) (e_bin or_add f_add (e_var 2) e_int)))))
    (x_one (x_ret (e_callB cr_sort2 f_sort2 rfl T.b_sorted (by decide +kernel) (a_cons (e_lst (a_cons (e_tup (a_cons (e_bin or_add f_add (e_var 2) e_int) (a_cons (e_var 5) a_nil))) (a_cons (e_tup (a_cons (e_ix (or_ix O) f_ix (e_var 4) e_int) (a_cons (e_var 5) a_nil))) a_nil))) a_nil))))
    x_nil)
    (x_one (x_ret (e_lst (a_cons (e_tup (a_cons (e_bin or_add f_add (e_var 2) e_int) (a_cons (e_var 5) a_nil))) a_nil)))))))))))
theorem H_shows_map (T : Facts w K mg) : Has P w K mg base "shows_map" 3 6 m_shows_map := by
  obtain ⟨fd, F⟩ := T.d_shows_map
  have S : FnScope ["part", "function", "paper", "place", "stack", "steps", "next_place", "behind"] ["part", "function", "paper"] (defScope st_shows_map) := ⟨rfl, rfl, rfl, by decide +kernel, rfl, by decide +kernel, by decide +kernel⟩
  have nd := S.nd
  have h_steps_of := H_steps_of (P := P) (base := base) T
  refine (Has.of (k := 5) F T.g_shows_map S (fun _ _ _ _ _ _ us hl => match us, hl with | [_, _, _], _ => rfl) fun cdv A outer s H E O => ?_).pureD
  exact (x_cons (x_if (t_cmp (or_ne O) f_ne (e_get1 O (e_var 2) e_int) (e_tup a_nil))
    (x_one (x_ret e_bl))
    x_nil)
    (x_cons (x_forP 2 O.hp O.calm (g_tup O.calm (gs_cons (g_name 3 nd) (gs_cons (g_name 4 nd) gs_nil)) (hok := gsq_names [3, 4]))
    (x_cons (x_set 5 nd (e_call O h_steps_of (by omega) (a_cons (e_var 0) (a_cons (e_var 1) (a_cons (e_var 3) (a_cons (e_var 4) a_nil)))) (cons_n (cons_n (cons_n (cons_n nil_n))))))
    (x_one (x_if (PW.pt (w_or (t_cmp op_isN f_isN (e_var 5) e_non) (w_or1 (t_cmp op_gt f_gt (e_callB or_len f_len rfl T.b_len (by decide +kernel) (a_cons (e_lc (own := [("next_place", 6), ("behind", 7)]) O.calm nd (pi_sq (e_var 5)) src_sq (blkOk_by (by kernel_rfl)) (fun s H C cl fp => blkG O fun O => (gw_tup (is := [6, 7]) O.calm (gsw_cons (gw_name 6 (by decide) nd) (gsw_cons (gw_name 7 (by decide) nd) gsw_nil)))) (fun s H C cl fp => blkT O fun O => (ts_one (t_cmp (or_ne O) f_ne (e_get1 O (e_var 2) (e_var 6)) (e_var 7)))) (fun s H C cl fp => blkE O fun O => e_int)) a_nil)) e_int))))
    (x_one (x_ret e_bl))
    x_nil))) (plain_names [3, 4]))
    (x_one (x_ret e_bl))))
theorem H_walked (T : Facts w K mg) : Has P w K mg base "walked" 2 6 m_walked := by
  obtain ⟨fd, F⟩ := T.d_walked
  have S : FnScope ["part", "function", "found", "paths", "queue", "at", "place", "steps", "later", "stack"] ["part", "function"] (defScope st_walked) := ⟨rfl, rfl, rfl, by decide +kernel, rfl, by decide +kernel, by decide +kernel⟩
  have nd := S.nd
  have h_steps_of := H_steps_of (P := P) (base := base) T
  refine (Has.of (k := 5) F T.g_walked S (fun _ _ _ _ _ _ us hl => match us, hl with | [_, _], _ => rfl) fun cdv A outer s H E O => ?_).pureD
  exact (x_cons (x_set 2 nd (e_dicN (pp_cons e_int (e_tup a_nil) pp_nil)))
    (x_cons (x_set 3 nd (e_dicN (pp_cons e_int (e_tup (a_cons e_int a_nil)) pp_nil)))
    (x_cons (x_set 4 nd (e_lstN (a_cons e_int a_nil)))
    (x_cons (x_set 5 nd e_int)
    (x_cons (x_while O.hp (t_cmp or_lt f_lt (e_var 5) (e_callB or_len f_len rfl T.b_len (by decide +kernel) (a_cons (e_var 4) a_nil)))
    (x_cons (x_set 6 nd (e_ix (or_ix O) f_ix (e_var 4) (e_var 5)))
    (x_cons (x_set 5 nd (e_bin or_add f_add (e_var 5) e_int))
    (x_cons (x_set 7 nd (e_call O h_steps_of (by omega) (a_cons (e_var 0) (a_cons (e_var 1) (a_cons (e_var 6) (a_cons (e_ix (or_ix O) f_ix (e_var 2) (e_var 6)) a_nil)))) (cons_n (cons_n (cons_n (cons_n nil_n))))))
    (x_cons (x_if (t_cmp op_isN f_isN (e_var 7) e_non)
    (x_one (x_ret (e_tup (a_cons e_non (a_cons (e_tup (a_cons e_str (a_cons (e_ix (or_ix O) f_ix (e_var 3) (e_var 6)) a_nil))) a_nil)))))
    x_nil)
    (x_one (x_for O.hp O.calm (pi_sq (e_var 7)) src_sq (g_tup O.calm (gs_cons (g_name 8 nd) (gs_cons (g_name 9 nd) gs_nil)) (hok := gsq_names [8, 9]))
    (x_one (x_if (t_cmp (or_notIn O) f_notIn (e_var 8) (e_var 2))
    (x_cons (x_asg (e_var 9) (g_sub (e_var 2) (e_var 8) (or_set O) f_set) (hnx := plain_sub))
    (x_cons (x_asg (e_bin or_add f_add (e_ix (or_ix O) f_ix (e_var 3) (e_var 6)) (e_tup (a_cons (e_var 8) a_nil))) (g_sub (e_var 3) (e_var 8) (or_set O) f_set) (hnx := plain_sub))
    (x_one (x_exp (e_append (e_var 4) (a_cons (e_var 8) a_nil))))))
    (x_one (x_if (t_cmp (or_ne O) f_ne (e_ix (or_ix O) f_ix (e_var 2) (e_var 8)) (e_var 9))
    (x_one (x_ret (e_tup (a_cons e_non (a_cons (e_tup (a_cons e_str (a_cons (e_ix (or_ix O) f_ix (e_var 3) (e_var 8)) (a_cons (e_bin or_add f_add (e_ix (or_ix O) f_ix (e_var 3) (e_var 6)) (e_tup (a_cons (e_var 8) a_nil))) a_nil)))) a_nil)))))
    x_nil)))) (plain_names [8, 9]))))))))
    (x_one (x_ret (e_tup (a_cons (e_var 2) (a_cons e_non a_nil))))))))))
theorem H_least_map (T : Facts w K mg) : Has P w K mg base "least_map" 2 7 m_least_map := by
  obtain ⟨fd, F⟩ := T.d_least_map
  have S : FnScope ["part", "function"] ["part", "function"] (defScope st_least_map) := ⟨rfl, rfl, rfl, by decide +kernel, rfl, by decide +kernel, by decide +kernel⟩
  have nd := S.nd
  have h_walked := H_walked (P := P) (base := base) T
  refine (Has.of (k := 6) F T.g_least_map S (fun _ _ _ _ _ _ us hl => match us, hl with | [_, _], _ => rfl) fun cdv A outer s H E O => ?_).pureD
  exact (x_one (x_ret (e_ix (or_ix O) f_ix (e_call O h_walked (by omega) (a_cons (e_var 0) (a_cons (e_var 1) a_nil)) (cons_n (cons_n nil_n))) e_int)))
theorem H_fault_paper (T : Facts w K mg) : Has P w K mg base "fault_paper" 2 7 m_fault_paper := by
  obtain ⟨fd, F⟩ := T.d_fault_paper
  have S : FnScope ["part", "function"] ["part", "function"] (defScope st_fault_paper) := ⟨rfl, rfl, rfl, by decide +kernel, rfl, by decide +kernel, by decide +kernel⟩
  have nd := S.nd
  have h_walked := H_walked (P := P) (base := base) T
  refine (Has.of (k := 6) F T.g_fault_paper S (fun _ _ _ _ _ _ us hl => match us, hl with | [_, _], _ => rfl) fun cdv A outer s H E O => ?_).pureD
  exact (x_one (x_ret (e_ix (or_ix O) f_ix (e_call O h_walked (by omega) (a_cons (e_var 0) (a_cons (e_var 1) a_nil)) (cons_n (cons_n nil_n))) e_int)))
theorem H_stack_along (T : Facts w K mg) : Has P w K mg base "stack_along" 3 6 m_stack_along := by
  obtain ⟨fd, F⟩ := T.d_stack_along
  have S : FnScope ["part", "function", "path", "stack", "k", "steps", "behind", "place", "later"] ["part", "function", "path"] (defScope st_stack_along) := ⟨rfl, rfl, rfl, by decide +kernel, rfl, by decide +kernel, by decide +kernel⟩
  have nd := S.nd
  have h_steps_of := H_steps_of (P := P) (base := base) T
  refine (Has.of (k := 5) F T.g_stack_along S (fun _ _ _ _ _ _ us hl => match us, hl with | [_, _, _], _ => rfl) fun cdv A outer s H E O => ?_).pureD
  exact (x_cons (x_if (PW.pt (w_or (t_cmp (or_eq O) f_eq (e_callB or_len f_len rfl T.b_len (by decide +kernel) (a_cons (e_var 2) a_nil)) e_int) (w_or1 (t_cmp (or_ne O) f_ne (e_ix (or_ix O) f_ix (e_var 2) e_int) e_int))))
    (x_one (x_ret e_non))
    x_nil)
    (x_cons (x_set 3 nd (e_tup a_nil))
    (x_cons (x_for O.hp O.calm (pi_range1 rfl T.b_range (a_cons (e_bin op_sub f_sub (e_callB or_len f_len rfl T.b_len (by decide +kernel) (a_cons (e_var 2) a_nil)) e_int) a_nil)) src_r1 (g_name 4 nd)
    (x_cons (x_set 5 nd (e_call O h_steps_of (by omega) (a_cons (e_var 0) (a_cons (e_var 1) (a_cons (e_ix (or_ix O) f_ix (e_var 2) (e_var 4)) (a_cons (e_var 3) a_nil)))) (cons_n (cons_n (cons_n (cons_n nil_n))))))
    (x_cons (x_if (t_cmp op_isN f_isN (e_var 5) e_non)
    (x_one (x_ret e_non))
    x_nil)
    (x_cons (x_setLc 6 (own := [("place", 7), ("later", 8)]) O.calm nd rfl rfl (sw_true rfl rfl rfl (by decide +kernel)) (pi_sq (e_var 5)) src_sq (blkOk_by (by kernel_rfl)) (fun s H C cl fp => blkG O fun O => (gw_tup (is := [7, 8]) O.calm (gsw_cons (gw_name 7 (by decide) nd) (gsw_cons (gw_name 8 (by decide) nd) gsw_nil)))) (fun s H C cl fp => blkT O fun O => (ts_one (t_cmp (or_eq O) f_eq (e_var 7) (e_ix (or_ix O) f_ix (e_var 2) (e_bin or_add f_add (e_var 4) e_int))))) (fun s H C cl fp => blkE O fun O => (e_var 8)))
    (x_cons (x_if (t_cmp (or_eq O) f_eq (e_callB or_len f_len rfl T.b_len (by decide +kernel) (a_cons (e_var 6) a_nil)) e_int)
    (x_one (x_ret e_non))
    x_nil)
    (x_one (x_set 3 nd (e_ix (or_ix O) f_ix (e_var 6) e_int))))))) (plain_name _))
    (x_one (x_ret (e_var 3))))))
theorem H_shows_fault (T : Facts w K mg) : Has P w K mg base "shows_fault" 3 7 m_shows_fault := by
  obtain ⟨fd, F⟩ := T.d_shows_fault
  have S : FnScope ["part", "function", "paper", "stack", "other"] ["part", "function", "paper"] (defScope st_shows_fault) := ⟨rfl, rfl, rfl, by decide +kernel, rfl, by decide +kernel, by decide +kernel⟩
  have nd := S.nd
  have h_stack_along := H_stack_along (P := P) (base := base) T
  have h_steps_of := H_steps_of (P := P) (base := base) T
  refine (Has.of (k := 6) F T.g_shows_fault S (fun _ _ _ _ _ _ us hl => match us, hl with | [_, _, _], _ => rfl) fun cdv A outer s H E O => ?_).pureD
  exact (x_cons (x_set 3 nd (e_call O h_stack_along (by omega) (a_cons (e_var 0) (a_cons (e_var 1) (a_cons (e_ix (or_ix O) f_ix (e_var 2) e_int) a_nil))) (cons_n (cons_n (cons_n nil_n)))))
    (x_cons (x_if (t_cmp op_isN f_isN (e_var 3) e_non)
    (x_one (x_ret e_bl))
    x_nil)
    (x_cons (x_if (t_cmp (or_eq O) f_eq (e_ix (or_ix O) f_ix (e_var 2) e_int) e_str)
    (x_one (x_ret (e_and (e_cmp (or_eq O) f_eq (e_callB or_len f_len rfl T.b_len (by decide +kernel) (a_cons (e_var 2) a_nil)) e_int) (e_one (e_cmp op_isN f_isN (e_call O h_steps_of (by omega) (a_cons (e_var 0) (a_cons (e_var 1) (a_cons (e_ix (or_ix O) f_ix (e_ix (or_ix O) f_ix (e_var 2) e_int) (e_un un_neg f_neg e_int)) (a_cons (e_var 3) a_nil)))) (cons_n (cons_n (cons_n (cons_n nil_n))))) e_non)))))
    x_nil)
    (x_cons (x_if (PW.pt (w_or (t_cmp (or_ne O) f_ne (e_ix (or_ix O) f_ix (e_var 2) e_int) e_str) (w_or1 (t_cmp (or_ne O) f_ne (e_callB or_len f_len rfl T.b_len (by decide +kernel) (a_cons (e_var 2) a_nil)) e_int))))
    (x_one (x_ret e_bl))
    x_nil)
    (x_cons (x_set 4 nd (e_call O h_stack_along (by omega) (a_cons (e_var 0) (a_cons (e_var 1) (a_cons (e_ix (or_ix O) f_ix (e_var 2) e_int) a_nil))) (cons_n (cons_n (cons_n nil_n)))))
    (x_one (x_ret (e_and (e_cmp op_notN f_notN (e_var 4) e_non) (e_and (e_cmp (or_eq O) f_eq (e_ix (or_ix O) f_ix (e_ix (or_ix O) f_ix (e_var 2) e_int) (e_un un_neg f_neg e_int)) (e_ix (or_ix O) f_ix (e_ix (or_ix O) f_ix (e_var 2) e_int) (e_un un_neg f_neg e_int))) (e_one (e_cmp (or_ne O) f_ne (e_var 3) (e_var 4))))))))))))
theorem H_is_accepted (T : Facts w K mg) : Has P w K mg base "is_accepted" 1 8 m_is_accepted := by
  obtain ⟨fd, F⟩ := T.d_is_accepted
  have S : FnScope ["part", "function"] ["part"] (defScope st_is_accepted) := ⟨rfl, rfl, rfl, by decide +kernel, rfl, by decide +kernel, by decide +kernel⟩
  have nd := S.nd
  have h_is_part := H_is_part (P := P) (base := base) T
  have h_least_map := H_least_map (P := P) (base := base) T
  refine (Has.of (k := 7) F T.g_is_accepted S (fun _ _ _ _ _ _ us hl => match us, hl with | [_], _ => rfl) fun cdv A outer s H E O => ?_).pureD
  exact (x_one (x_ret (e_and (e_call O h_is_part (by omega) (a_cons (e_var 0) a_nil) (cons_n nil_n)) (e_one (e_cmp (or_eq O) f_eq (e_callB or_len f_len rfl T.b_len (by decide +kernel) (a_cons (e_lc (own := [("function", 1)]) O.calm nd (pi_sq (e_ix (or_ix O) f_ix (e_var 0) e_int)) src_sq (blkOk_by (by kernel_rfl)) (fun s H C cl fp => blkG O fun O => (gw_name 1 (by decide) nd)) (fun s H C cl fp => blkT O fun O => (ts_one (t_cmp op_isN f_isN (e_call O h_least_map (by omega) (a_cons (e_var 0) (a_cons (e_var 1) a_nil)) (cons_n (cons_n nil_n))) e_non))) (fun s H C cl fp => blkE O fun O => e_int)) a_nil)) e_int)))))
theorem H_law_deal (T : Facts w K mg) : Has P w K mg base "_law_deal" 1 1 m_law_deal := by
  obtain ⟨fd, F⟩ := T.d__law_deal
  have S : FnScope ["script", "row", "k", "cell", "turn", "total"] ["script"] (defScope st__law_deal) := ⟨rfl, rfl, rfl, by decide +kernel, rfl, by decide +kernel, by decide +kernel⟩
  have nd := S.nd
  refine (Has.of (k := 0) F T.g__law_deal S (fun _ _ _ _ _ _ us hl => match us, hl with | [_], _ => rfl) fun cdv A outer s H E O => ?_)
  exact (x_cons (x_set 1 nd (e_lstN a_nil))
    (x_cons (x_for O.hp O.calm (pi_range1 rfl T.b_range (a_cons (e_callB (call_min2 O.calm) f_min2 rfl T.b_min (by decide +kernel) (a_cons (e_callB or_len f_len rfl T.b_len (by decide +kernel) (a_cons (e_var 0) a_nil)) (a_cons e_int a_nil))) a_nil)) src_r1 (g_name 2 nd)
    (x_cons (x_set 3 nd (e_callB call_abs f_abs rfl T.b_abs (by decide +kernel) (a_cons (e_callTy call_int1 f_int rfl T.b_int (by decide +kernel) (a_cons (e_ix (or_ix O) f_ix (e_var 0) (e_var 2)) a_nil)) a_nil)))
    (x_one (x_if (t_cmp op_ge f_ge (e_var 3) (e_bin op_pow f_pow e_int e_int))
    (x_one (x_for O.hp O.calm (pi_range1 rfl T.b_range (a_cons e_int a_nil)) src_r1 (g_name 4 nd)
    (x_one (x_if (t_cmp op_gt f_gt (e_var 3) e_int)
    (x_cons (x_exp (e_append (e_var 1) (a_cons (e_bin op_modN f_mod (e_var 3) e_int) a_nil)))
    (x_one (x_set 3 nd (e_bin op_fdivN f_div (e_var 3) e_int))))
    x_nil)) (plain_name _)))
    (x_cons (x_set 3 nd (e_bin or_add f_add (e_bin or_add f_add (e_bin op_mul f_mul (e_bin op_modN f_mod (e_var 3) e_int) e_int) (e_bin op_mul f_mul (e_var 2) e_int)) e_int))
    (x_one (x_for O.hp O.calm (pi_range1 rfl T.b_range (a_cons e_int a_nil)) src_r1 (g_name 4 nd)
    (x_cons (x_set 3 nd (e_bin op_modN f_mod (e_bin or_add f_add (e_bin or_add f_add (e_bin op_mul f_mul (e_var 3) e_int) e_int) (e_var 4)) e_int))
    (x_one (x_exp (e_append (e_var 1) (a_cons (e_bin op_modN f_mod (e_bin op_fdivN f_div (e_var 3) e_int) e_int) a_nil))))) (plain_name _))))))) (plain_name _))
    (x_cons (x_set 5 nd (e_bin or_add f_add (e_callB (cr_sum O.calm) f_sum rfl T.b_sum (by decide +kernel) (a_cons (e_var 1) a_nil)) (e_callB or_len f_len rfl T.b_len (by decide +kernel) (a_cons (e_var 0) a_nil))))
    (x_one (x_ret (e_lst (a_cons (e_var 1) (a_cons (e_lstN (a_cons e_int a_nil)) (a_cons (e_var 5) a_nil)))))))))
theorem H_law_take (T : Facts w K mg) : Has P w K mg base "_law_take" 2 1 m_law_take := by
  obtain ⟨fd, F⟩ := T.d__law_take
  have S : FnScope ["deal", "many", "at"] ["deal", "many"] (defScope st__law_take) := ⟨rfl, rfl, rfl, by decide +kernel, rfl, by decide +kernel, by decide +kernel⟩
  have nd := S.nd
  refine (Has.of (k := 0) F T.g__law_take S (fun _ _ _ _ _ _ us hl => match us, hl with | [_, _], _ => rfl) fun cdv A outer s H E O => ?_)
  exact (x_cons (x_set 2 nd (e_ix (or_ix O) f_ix (e_ix (or_ix O) f_ix (e_var 0) e_int) e_int))
    (x_cons (x_asg (e_bin or_add f_add (e_var 2) e_int) (g_sub (e_ix (or_ix O) f_ix (e_var 0) e_int) e_int (or_set O) f_set) (hnx := plain_sub))
    (x_cons (x_if (t_cmp or_lt f_lt (e_var 2) (e_callB or_len f_len rfl T.b_len (by decide +kernel) (a_cons (e_ix (or_ix O) f_ix (e_var 0) e_int) a_nil)))
    (x_one (x_ret (e_bin op_modN f_mod (e_ix (or_ix O) f_ix (e_ix (or_ix O) f_ix (e_var 0) e_int) (e_var 2)) (e_var 1))))
    x_nil)
    (x_one (x_ret (e_bin op_modN f_mod (e_bin op_fdivN f_div (e_bin or_add f_add (e_bin or_add f_add (e_bin op_mul f_mul (e_var 2) e_int) (e_bin op_mul f_mul (e_ix (or_ix O) f_ix (e_var 0) e_int) e_int)) (e_bin op_mul f_mul (e_bin op_mul f_mul (e_var 2) (e_var 2)) e_int)) e_int) (e_var 1)))))))
theorem HG_law_same (T : Facts w K mg) : ∀ n, Has P w K mg base "_law_same" 2 (0 + n) (m_law_same n)
  | 0 => (by
    obtain ⟨fd, F⟩ := T.d__law_same
    exact Has.none (ps := ["a", "b"]) F T.g__law_same (fun _ _ _ _ _ _ us hl => match us, hl with | [_, _], _ => rfl))
  | n + 1 => by
    have h_law_same := HG_law_same T n
    exact (by
      obtain ⟨fd, F⟩ := T.d__law_same
      have S : FnScope ["a", "b", "k"] ["a", "b"] (defScope st__law_same) := ⟨rfl, rfl, rfl, by decide +kernel, rfl, by decide +kernel, by decide +kernel⟩
      have nd := S.nd
      refine (Has.of (k := 0 + n) F T.g__law_same S (fun _ _ _ _ _ _ us hl => match us, hl with | [_, _], _ => rfl) fun cdv A outer s H E O => ?_).pureD
      exact (x_cons (x_if (PW.pt (w_or (t_val (e_isi (by decide) rfl T.b_isinstance rfl T.b_tuple (by decide +kernel) (e_var 1))) (w_or1 (t_val (e_isi (by decide) rfl T.b_isinstance rfl T.b_list (by decide +kernel) (e_var 1))))))
    (x_cons (x_if (PW.pt (w_or (PW.pt (w_and (t_val (e_isi (by decide) rfl T.b_isinstance rfl T.b_tuple (by decide +kernel) (e_var 1))) (w_and1 (t_not (t_val (e_isi (by decide) rfl T.b_isinstance rfl T.b_tuple (by decide +kernel) (e_var 0))))))) (w_or1 (PW.pt (w_and (t_val (e_isi (by decide) rfl T.b_isinstance rfl T.b_list (by decide +kernel) (e_var 1))) (w_and1 (t_not (t_val (e_isi (by decide) rfl T.b_isinstance rfl T.b_list (by decide +kernel) (e_var 0))))))))))
    (x_one (x_ret e_bl))
    x_nil)
    (x_cons (x_if (t_cmp (or_ne O) f_ne (e_callB or_len f_len rfl T.b_len (by decide +kernel) (a_cons (e_var 0) a_nil)) (e_callB or_len f_len rfl T.b_len (by decide +kernel) (a_cons (e_var 1) a_nil)))
    (x_one (x_ret e_bl))
    x_nil)
    (x_cons (x_for O.hp O.calm (pi_range1 rfl T.b_range (a_cons (e_callB or_len f_len rfl T.b_len (by decide +kernel) (a_cons (e_var 1) a_nil)) a_nil)) src_r1 (g_name 2 nd)
    (x_one (x_if (t_not (t_val (e_call O h_law_same (by omega) (a_cons (e_ix (or_ix O) f_ix (e_var 0) (e_var 2)) (a_cons (e_ix (or_ix O) f_ix (e_var 1) (e_var 2)) a_nil)) (cons_n (cons_n nil_n)))))
    (x_one (x_ret e_bl))
    x_nil)) (plain_name _))
    (x_one (x_ret e_bl)))))
    x_nil)
    (x_cons (x_if (PW.pt (w_or (t_val (e_isi (by decide) rfl T.b_isinstance rfl T.b_bool (by decide +kernel) (e_var 0))) (w_or1 (t_val (e_isi (by decide) rfl T.b_isinstance rfl T.b_bool (by decide +kernel) (e_var 1))))))
    (x_one (x_ret (e_and (e_isi (by decide) rfl T.b_isinstance rfl T.b_bool (by decide +kernel) (e_var 0)) (e_and (e_isi (by decide) rfl T.b_isinstance rfl T.b_bool (by decide +kernel) (e_var 1)) (e_one (e_cmp (or_eq O) f_eq (e_var 0) (e_var 1)))))))
    x_nil)
    (x_cons (x_if (t_val (e_isi (by decide) rfl T.b_isinstance rfl T.b_int (by decide +kernel) (e_var 1)))
    (x_one (x_ret (e_and (e_isi (by decide) rfl T.b_isinstance rfl T.b_int (by decide +kernel) (e_var 0)) (e_one (e_cmp (or_eq O) f_eq (e_var 0) (e_var 1))))))
    x_nil)
    (x_cons (x_if (t_val (e_isi (by decide) rfl T.b_isinstance rfl T.b_str (by decide +kernel) (e_var 1)))
    (x_one (x_ret (e_and (e_isi (by decide) rfl T.b_isinstance rfl T.b_str (by decide +kernel) (e_var 0)) (e_one (e_cmp (or_eq O) f_eq (e_var 0) (e_var 1))))))
    x_nil)
    (x_one (x_ret (e_and (e_cmp op_isN f_isN (e_var 0) e_non) (e_one (e_cmp op_isN f_isN (e_var 1) e_non))))))))))
theorem H_law_same (T : Facts w K mg) (n : Nat) : Has P w K mg base "_law_same" 2 (0 + n) (m_law_same n) := (HG_law_same T n)
theorem H_law_bool (T : Facts w K mg) : Has P w K mg base "_law_bool" 2 1 m_law_bool := by
  obtain ⟨fd, F⟩ := T.d__law_bool
  have S : FnScope ["answer", "due"] ["answer", "due"] (defScope st__law_bool) := ⟨rfl, rfl, rfl, by decide +kernel, rfl, by decide +kernel, by decide +kernel⟩
  have nd := S.nd
  refine (Has.of (k := 0) F T.g__law_bool S (fun _ _ _ _ _ _ us hl => match us, hl with | [_, _], _ => rfl) fun cdv A outer s H E O => ?_).pureD
  exact (x_one (x_ret (e_and (e_isi (by decide) rfl T.b_isinstance rfl T.b_bool (by decide +kernel) (e_var 0)) (e_one (e_cmp (or_eq O) f_eq (e_var 0) (e_var 1))))))
theorem H_law_pick (T : Facts w K mg) : Has P w K mg base "_law_pick" 2 2 m_law_pick := by
  obtain ⟨fd, F⟩ := T.d__law_pick
  have S : FnScope ["deal", "things"] ["deal", "things"] (defScope st__law_pick) := ⟨rfl, rfl, rfl, by decide +kernel, rfl, by decide +kernel, by decide +kernel⟩
  have nd := S.nd
  have h_law_take := H_law_take (P := P) (base := base) T
  refine (Has.of (k := 1) F T.g__law_pick S (fun _ _ _ _ _ _ us hl => match us, hl with | [_, _], _ => rfl) fun cdv A outer s H E O => ?_)
  exact (x_one (x_ret (e_ix (or_ix O) f_ix (e_var 1) (e_call O h_law_take (by omega) (a_cons (e_var 0) (a_cons (e_callB or_len f_len rfl T.b_len (by decide +kernel) (a_cons (e_var 1) a_nil)) a_nil)) (cons_n (cons_n nil_n))))))
theorem H_law_word (T : Facts w K mg) : Has P w K mg base "_law_word" 1 3 m_law_word := by
  obtain ⟨fd, F⟩ := T.d__law_word
  have S : FnScope ["deal"] ["deal"] (defScope st__law_word) := ⟨rfl, rfl, rfl, by decide +kernel, rfl, by decide +kernel, by decide +kernel⟩
  have nd := S.nd
  have h_law_pick := H_law_pick (P := P) (base := base) T
  refine (Has.of (k := 2) F T.g__law_word S (fun _ _ _ _ _ _ us hl => match us, hl with | [_], _ => rfl) fun cdv A outer s H E O => ?_)
  exact (x_one (x_ret (e_call O h_law_pick (by omega) (a_cons (e_var 0) (a_cons (e_lst (a_cons e_int (a_cons e_int (a_cons e_int (a_cons e_int (a_cons (e_un un_neg f_neg e_int) (a_cons e_int (a_cons (e_un un_neg f_neg e_int) (a_cons e_int (a_cons e_int (a_cons (e_un un_neg f_neg e_int) a_nil))))))))))) a_nil)) (cons_n (cons_n nil_n)))))
theorem HG_law_expr (T : Facts w K mg) : ∀ n, Has P w K mg base "_law_expr" 3 (3 + n) (m_law_expr n)
  | 0 => (by
    obtain ⟨fd, F⟩ := T.d__law_expr
    exact Has.none (ps := ["deal", "depth", "slots"]) F T.g__law_expr (fun _ _ _ _ _ _ us hl => match us, hl with | [_, _, _], _ => rfl))
  | n + 1 => by
    have h_law_expr := HG_law_expr T n
    have h_law_pick := H_law_pick (P := P) (base := base) T
    have h_law_take := H_law_take (P := P) (base := base) T
    have h_law_word := H_law_word (P := P) (base := base) T
    exact (by
      obtain ⟨fd, F⟩ := T.d__law_expr
      have S : FnScope ["deal", "depth", "slots", "choice", "word"] ["deal", "depth", "slots"] (defScope st__law_expr) := ⟨rfl, rfl, rfl, by decide +kernel, rfl, by decide +kernel, by decide +kernel⟩
      have nd := S.nd
      refine (Has.of (k := 3 + n) F T.g__law_expr S (fun _ _ _ _ _ _ us hl => match us, hl with | [_, _, _], _ => rfl) fun cdv A outer s H E O => ?_)
      exact (x_cons (x_set 3 nd (e_call O h_law_take (by omega) (a_cons (e_var 0) (a_cons e_int a_nil)) (cons_n (cons_n nil_n))))
    (x_cons (x_if (PW.pt (w_or (t_cmp (or_eq O) f_eq (e_var 1) e_int) (w_or1 (t_cmp (or_eq O) f_eq (e_var 3) e_int))))
    (x_one (x_ret (e_if (t_cmp (or_eq O) f_eq (e_call O h_law_take (by omega) (a_cons (e_var 0) (a_cons e_int a_nil)) (cons_n (cons_n nil_n))) e_int) (e_tup (a_cons e_str (a_cons (e_call O h_law_word (by omega) (a_cons (e_var 0) a_nil) (cons_n nil_n)) a_nil))) (e_tup (a_cons e_str (a_cons (e_call O h_law_take (by omega) (a_cons (e_var 0) (a_cons (e_var 2) a_nil)) (cons_n (cons_n nil_n))) a_nil))))))
    x_nil)
    (x_cons (x_if (PW.pt (w_and (t_cmp (or_eq O) f_eq (e_var 3) e_int) (w_and1 (t_cmp op_gt f_gt (e_var 2) e_int))))
    (x_one (x_ret (e_tup (a_cons e_str (a_cons (e_call O h_law_expr (by omega) (a_cons (e_var 0) (a_cons (e_bin op_sub f_sub (e_var 1) e_int) (a_cons (e_var 2) a_nil))) (cons_n (cons_n (cons_n nil_n)))) (a_cons (e_call O h_law_expr (by omega) (a_cons (e_var 0) (a_cons e_int (a_cons (e_var 2) a_nil))) (cons_n (cons_n (cons_n nil_n)))) a_nil))))))
    x_nil)
    (x_cons (x_set 4 nd (e_call O h_law_pick (by omega) (a_cons (e_var 0) (a_cons (e_lst (a_cons e_str (a_cons e_str (a_cons e_str (a_cons e_str (a_cons e_str (a_cons e_str a_nil))))))) a_nil)) (cons_n (cons_n nil_n))))
    (x_one (x_ret (e_tup (a_cons e_str (a_cons (e_var 4) (a_cons (e_call O h_law_expr (by omega) (a_cons (e_var 0) (a_cons (e_bin op_sub f_sub (e_var 1) e_int) (a_cons (e_var 2) a_nil))) (cons_n (cons_n (cons_n nil_n)))) (a_cons (e_call O h_law_expr (by omega) (a_cons (e_var 0) (a_cons (e_bin op_sub f_sub (e_var 1) e_int) (a_cons (e_var 2) a_nil))) (cons_n (cons_n (cons_n nil_n)))) a_nil))))))))))))
theorem H_law_expr (T : Facts w K mg) (n : Nat) : Has P w K mg base "_law_expr" 3 (3 + n) (m_law_expr n) := (HG_law_expr T n)
theorem HG_law_statement (T : Facts w K mg) : ∀ n, Has P w K mg base "_law_statement" 2 (7 + n) (m_law_statement n)
  | 0 => (by
    obtain ⟨fd, F⟩ := T.d__law_statement
    exact Has.none (ps := ["deal", "depth"]) F T.g__law_statement (fun _ _ _ _ _ _ us hl => match us, hl with | [_, _], _ => rfl))
  | n + 1 => by
    have h_law_statement := HG_law_statement T n
    have h_law_expr := H_law_expr (P := P) (base := base) T 4
    have h_law_take := H_law_take (P := P) (base := base) T
    exact (by
      obtain ⟨fd, F⟩ := T.d__law_statement
      have S : FnScope ["deal", "depth", "choice", "word", "inner", "k"] ["deal", "depth"] (defScope st__law_statement) := ⟨rfl, rfl, rfl, by decide +kernel, rfl, by decide +kernel, by decide +kernel⟩
      have nd := S.nd
      refine (Has.of (k := 7 + n) F T.g__law_statement S (fun _ _ _ _ _ _ us hl => match us, hl with | [_, _], _ => rfl) fun cdv A outer s H E O => ?_)
      exact (x_cons (x_set 2 nd (e_call O h_law_take (by omega) (a_cons (e_var 0) (a_cons e_int a_nil)) (cons_n (cons_n nil_n))))
    (x_cons (x_if (PW.pt (w_and (t_cmp or_lt f_lt (e_var 2) e_int) (w_and1 (t_cmp op_gt f_gt (e_var 1) e_int))))
    (x_cons (x_set 3 nd (e_if (t_cmp (or_eq O) f_eq (e_var 2) e_int) e_str e_str))
    (x_cons (x_setLc 4 (own := [("k", 5)]) O.calm nd rfl rfl (sw_true rfl rfl rfl (by decide +kernel)) (pi_range1 rfl T.b_range (a_cons (e_bin or_add f_add e_int (e_call O h_law_take (by omega) (a_cons (e_var 0) (a_cons e_int a_nil)) (cons_n (cons_n nil_n)))) a_nil)) src_r1 (blkOk_by (by kernel_rfl)) (fun s H C cl fp => blkG O fun O => (gw_name 5 (by decide) nd)) (fun s H C cl fp => blkT O fun O => ts_nil) (fun s H C cl fp => blkE O fun O => (e_call O h_law_statement (by omega) (a_cons (e_var 0) (a_cons (e_bin op_sub f_sub (e_var 1) e_int) a_nil)) (cons_n (cons_n nil_n)))))
    (x_one (x_ret (e_tup (a_cons (e_var 3) (a_cons (e_if (t_cmp (or_eq O) f_eq (e_var 2) e_int) (e_call O h_law_expr (by omega) (a_cons (e_var 0) (a_cons e_int (a_cons e_int a_nil))) (cons_n (cons_n (cons_n nil_n)))) (e_tup (a_cons e_str (a_cons (e_bin or_add f_add e_int (e_call O h_law_take (by omega) (a_cons (e_var 0) (a_cons e_int a_nil)) (cons_n (cons_n nil_n)))) a_nil)))) (a_cons (e_var 4) a_nil))))))))
    x_nil)
    (x_cons (x_if (t_cmp or_lt f_lt (e_var 2) e_int)
    (x_one (x_ret (e_tup (a_cons e_str (a_cons (e_call O h_law_take (by omega) (a_cons (e_var 0) (a_cons e_int a_nil)) (cons_n (cons_n nil_n))) (a_cons (e_call O h_law_expr (by omega) (a_cons (e_var 0) (a_cons (e_bin or_add f_add e_int (e_call O h_law_take (by omega) (a_cons (e_var 0) (a_cons e_int a_nil)) (cons_n (cons_n nil_n)))) (a_cons e_int a_nil))) (cons_n (cons_n (cons_n nil_n)))) a_nil))))))
    x_nil)
    (x_cons (x_if (t_cmp or_lt f_lt (e_var 2) e_int)
    (x_one (x_ret (e_tup (a_cons e_str (a_cons (e_call O h_law_expr (by omega) (a_cons (e_var 0) (a_cons (e_bin or_add f_add e_int (e_call O h_law_take (by omega) (a_cons (e_var 0) (a_cons e_int a_nil)) (cons_n (cons_n nil_n)))) (a_cons e_int a_nil))) (cons_n (cons_n (cons_n nil_n)))) a_nil)))))
    x_nil)
    (x_cons (x_if (t_cmp (or_eq O) f_eq (e_var 2) e_int)
    (x_one (x_ret (e_tup (a_cons e_str (a_cons (e_call O h_law_expr (by omega) (a_cons (e_var 0) (a_cons e_int (a_cons e_int a_nil))) (cons_n (cons_n (cons_n nil_n)))) a_nil)))))
    x_nil)
    (x_one (x_ret (e_tup (a_cons (e_ix (or_ix O) f_ix (e_lst (a_cons e_str (a_cons e_str a_nil))) (e_bin op_sub f_sub (e_var 2) e_int)) a_nil))))))))))
theorem H_law_statement (T : Facts w K mg) (n : Nat) : Has P w K mg base "_law_statement" 2 (7 + n) (m_law_statement n) := (HG_law_statement T n)
theorem HG_law_code (T : Facts w K mg) : ∀ n, Has P w K mg base "_law_code" 1 (0 + n) (m_law_code n)
  | 0 => (by
    obtain ⟨fd, F⟩ := T.d__law_code
    exact Has.none (ps := ["e"]) F T.g__law_code (fun _ _ _ _ _ _ us hl => match us, hl with | [_], _ => rfl))
  | n + 1 => by
    have h_law_code := HG_law_code T n
    exact (by
      obtain ⟨fd, F⟩ := T.d__law_code
      have S : FnScope ["e"] ["e"] (defScope st__law_code) := ⟨rfl, rfl, rfl, by decide +kernel, rfl, by decide +kernel, by decide +kernel⟩
      have nd := S.nd
      refine (Has.of (k := 0 + n) F T.g__law_code S (fun _ _ _ _ _ _ us hl => match us, hl with | [_], _ => rfl) fun cdv A outer s H E O => ?_).pureD
      exact (x_cons (x_if (t_cmp (or_eq O) f_eq (e_ix (or_ix O) f_ix (e_var 0) e_int) e_str)
    (x_one (x_ret (e_lst (a_cons (e_tup (a_cons e_str (a_cons (e_ix (or_ix O) f_ix (e_var 0) e_int) a_nil))) a_nil))))
    x_nil)
    (x_cons (x_if (t_cmp (or_eq O) f_eq (e_ix (or_ix O) f_ix (e_var 0) e_int) e_str)
    (x_one (x_ret (e_lst (a_cons (e_tup (a_cons e_str (a_cons (e_ix (or_ix O) f_ix (e_var 0) e_int) a_nil))) a_nil))))
    x_nil)
    (x_cons (x_if (t_cmp (or_eq O) f_eq (e_ix (or_ix O) f_ix (e_var 0) e_int) e_str)
    (x_one (x_ret (e_bin or_add f_add (e_bin or_add f_add (e_call O h_law_code (by omega) (a_cons (e_ix (or_ix O) f_ix (e_var 0) e_int) a_nil) (cons_n nil_n)) (e_call O h_law_code (by omega) (a_cons (e_ix (or_ix O) f_ix (e_var 0) e_int) a_nil) (cons_n nil_n))) (e_lst (a_cons (e_tup (a_cons e_str (a_cons e_str a_nil))) a_nil)))))
    x_nil)
    (x_one (x_ret (e_bin or_add f_add (e_bin or_add f_add (e_call O h_law_code (by omega) (a_cons (e_ix (or_ix O) f_ix (e_var 0) e_int) a_nil) (cons_n nil_n)) (e_call O h_law_code (by omega) (a_cons (e_ix (or_ix O) f_ix (e_var 0) e_int) a_nil) (cons_n nil_n))) (e_lst (a_cons (e_tup (a_cons (e_ix (or_ix O) f_ix (e_var 0) e_int) a_nil)) a_nil)))))))))
theorem H_law_code (T : Facts w K mg) (n : Nat) : Has P w K mg base "_law_code" 1 (0 + n) (m_law_code n) := (HG_law_code T n)
theorem HG_law_statement_code (T : Facts w K mg) : ∀ n, Has P w K mg base "_law_statement_code" 2 (5 + n) (m_law_statement_code n) ∧ Has P w K mg base "_law_body_code" 2 (5 + n) (m_law_body_code n)
  | 0 => ⟨(by
    obtain ⟨fd, F⟩ := T.d__law_statement_code
    exact Has.none (ps := ["s", "at"]) F T.g__law_statement_code (fun _ _ _ _ _ _ us hl => match us, hl with | [_, _], _ => rfl)), (by
    obtain ⟨fd, F⟩ := T.d__law_body_code
    exact Has.none (ps := ["body", "at"]) F T.g__law_body_code (fun _ _ _ _ _ _ us hl => match us, hl with | [_, _], _ => rfl))⟩
  | n + 1 => by
    obtain ⟨h_law_statement_code, h_law_body_code⟩ := HG_law_statement_code T n
    have h_law_code := H_law_code (P := P) (base := base) T 5
    exact ⟨(by
      obtain ⟨fd, F⟩ := T.d__law_statement_code
      have S : FnScope ["s", "at", "head", "inner", "end", "top", "back"] ["s", "at"] (defScope st__law_statement_code) := ⟨rfl, rfl, rfl, by decide +kernel, rfl, by decide +kernel, by decide +kernel⟩
      have nd := S.nd
      refine (Has.of (k := 5 + n) F T.g__law_statement_code S (fun _ _ _ _ _ _ us hl => match us, hl with | [_, _], _ => rfl) fun cdv A outer s H E O => ?_).pureD
      exact (x_cons (x_if (t_cmp (or_eq O) f_eq (e_ix (or_ix O) f_ix (e_var 0) e_int) e_str)
    (x_one (x_ret (e_bin or_add f_add (e_call O h_law_code (by omega) (a_cons (e_ix (or_ix O) f_ix (e_var 0) e_int) a_nil) (cons_n nil_n)) (e_lst (a_cons (e_tup (a_cons e_str (a_cons (e_ix (or_ix O) f_ix (e_var 0) e_int) a_nil))) a_nil)))))
    x_nil)
    (x_cons (x_if (t_cmp (or_eq O) f_eq (e_ix (or_ix O) f_ix (e_var 0) e_int) e_str)
    (x_one (x_ret (e_bin or_add f_add (e_call O h_law_code (by omega) (a_cons (e_ix (or_ix O) f_ix (e_var 0) e_int) a_nil) (cons_n nil_n)) (e_lst (a_cons (e_tup (a_cons e_str a_nil)) a_nil)))))
    x_nil)
    (x_cons (x_if (t_cmp (or_eq O) f_eq (e_ix (or_ix O) f_ix (e_var 0) e_int) e_str)
    (x_one (x_ret (e_bin or_add f_add (e_call O h_law_code (by omega) (a_cons (e_ix (or_ix O) f_ix (e_var 0) e_int) a_nil) (cons_n nil_n)) (e_lst (a_cons (e_tup (a_cons e_str (a_cons e_int a_nil))) (a_cons (e_tup (a_cons e_str (a_cons e_str a_nil))) (a_cons (e_tup (a_cons e_str (a_cons e_int a_nil))) a_nil)))))))
    x_nil)
    (x_cons (x_if (t_cmp (or_eq O) f_eq (e_ix (or_ix O) f_ix (e_var 0) e_int) e_str)
    (x_one (x_ret (e_lst (a_cons (e_tup (a_cons e_str (a_cons e_int a_nil))) (a_cons (e_tup (a_cons e_str (a_cons e_str (a_cons e_int a_nil)))) (a_cons (e_tup (a_cons e_str a_nil)) a_nil))))))
    x_nil)
    (x_cons (x_if (t_cmp (or_eq O) f_eq (e_ix (or_ix O) f_ix (e_var 0) e_int) e_str)
    (x_one (x_ret (e_lst (a_cons (e_tup (a_cons e_str (a_cons e_int a_nil))) (a_cons (e_tup (a_cons e_str (a_cons e_str (a_cons e_int a_nil)))) (a_cons (e_tup (a_cons e_str (a_cons e_int a_nil))) a_nil))))))
    x_nil)
    (x_cons (x_set 2 nd (e_call O h_law_code (by omega) (a_cons (e_ix (or_ix O) f_ix (e_var 0) e_int) a_nil) (cons_n nil_n)))
    (x_cons (x_if (t_cmp (or_eq O) f_eq (e_ix (or_ix O) f_ix (e_var 0) e_int) e_str)
    (x_cons (x_set 3 nd (e_call O h_law_body_code (by omega) (a_cons (e_ix (or_ix O) f_ix (e_var 0) e_int) (a_cons (e_bin or_add f_add (e_bin or_add f_add (e_var 1) (e_callB or_len f_len rfl T.b_len (by decide +kernel) (a_cons (e_var 2) a_nil))) e_int) a_nil)) (cons_n (cons_n nil_n))))
    (x_cons (x_set 4 nd (e_bin or_add f_add (e_bin or_add f_add (e_bin or_add f_add (e_var 1) (e_callB or_len f_len rfl T.b_len (by decide +kernel) (a_cons (e_var 2) a_nil))) e_int) (e_callB or_len f_len rfl T.b_len (by decide +kernel) (a_cons (e_var 3) a_nil))))
    (x_one (x_ret (e_bin or_add f_add (e_bin or_add f_add (e_var 2) (e_lst (a_cons (e_tup (a_cons e_str (a_cons (e_bin or_add f_add (e_bin or_add f_add (e_var 1) (e_callB or_len f_len rfl T.b_len (by decide +kernel) (a_cons (e_var 2) a_nil))) e_int) a_nil))) (a_cons (e_tup (a_cons e_str (a_cons (e_var 4) a_nil))) a_nil)))) (e_var 3))))))
    x_nil)
    (x_cons (x_set 2 nd (e_bin or_add f_add (e_var 2) (e_lst (a_cons (e_tup (a_cons e_str (a_cons e_int a_nil))) a_nil))))
    (x_cons (x_set 5 nd (e_bin or_add f_add (e_var 1) (e_callB or_len f_len rfl T.b_len (by decide +kernel) (a_cons (e_var 2) a_nil))))
    (x_cons (x_set 3 nd (e_call O h_law_body_code (by omega) (a_cons (e_ix (or_ix O) f_ix (e_var 0) e_int) (a_cons (e_bin or_add f_add (e_var 5) e_int) a_nil)) (cons_n (cons_n nil_n))))
    (x_cons (x_set 6 nd (e_lst (a_cons (e_tup (a_cons e_str (a_cons e_int a_nil))) (a_cons (e_tup (a_cons e_str (a_cons e_int a_nil))) (a_cons (e_tup (a_cons e_str a_nil)) (a_cons (e_tup (a_cons e_str (a_cons e_int a_nil))) (a_cons (e_tup (a_cons e_str (a_cons (e_var 5) a_nil))) a_nil)))))))
    (x_cons (x_set 4 nd (e_bin or_add f_add (e_bin or_add f_add (e_bin or_add f_add (e_var 5) e_int) (e_callB or_len f_len rfl T.b_len (by decide +kernel) (a_cons (e_var 3) a_nil))) (e_callB or_len f_len rfl T.b_len (by decide +kernel) (a_cons (e_var 6) a_nil))))
    (x_one (x_ret (e_bin or_add f_add (e_bin or_add f_add (e_bin or_add f_add (e_var 2) (e_lst (a_cons (e_tup (a_cons e_str (a_cons e_int a_nil))) (a_cons (e_tup (a_cons e_str (a_cons (e_bin or_add f_add (e_var 5) e_int) a_nil))) (a_cons (e_tup (a_cons e_str (a_cons (e_var 4) a_nil))) a_nil))))) (e_var 3)) (e_var 6))))))))))))))))), (by
      obtain ⟨fd, F⟩ := T.d__law_body_code
      have S : FnScope ["body", "at", "code", "s"] ["body", "at"] (defScope st__law_body_code) := ⟨rfl, rfl, rfl, by decide +kernel, rfl, by decide +kernel, by decide +kernel⟩
      have nd := S.nd
      refine (Has.of (k := 5 + n) F T.g__law_body_code S (fun _ _ _ _ _ _ us hl => match us, hl with | [_, _], _ => rfl) fun cdv A outer s H E O => ?_).pureD
      exact (x_cons (x_set 2 nd (e_lst a_nil))
    (x_cons (x_for O.hp O.calm (pi_sq (e_var 0)) src_sq (g_name 3 nd)
    (x_one (x_set 2 nd (e_bin or_add f_add (e_var 2) (e_call O h_law_statement_code (by omega) (a_cons (e_var 3) (a_cons (e_bin or_add f_add (e_var 1) (e_callB or_len f_len rfl T.b_len (by decide +kernel) (a_cons (e_var 2) a_nil))) a_nil)) (cons_n (cons_n nil_n)))))) (plain_name _))
    (x_one (x_ret (e_var 2))))))⟩
theorem H_law_statement_code (T : Facts w K mg) (n : Nat) : Has P w K mg base "_law_statement_code" 2 (5 + n) (m_law_statement_code n) := (HG_law_statement_code T n).1
theorem H_law_body_code (T : Facts w K mg) (n : Nat) : Has P w K mg base "_law_body_code" 2 (5 + n) (m_law_body_code n) := (HG_law_statement_code T n).2
theorem H_law_main_code (T : Facts w K mg) : Has P w K mg base "_law_main_code" 1 12 m_law_main_code := by
  obtain ⟨fd, F⟩ := T.d__law_main_code
  have S : FnScope ["tree"] ["tree"] (defScope st__law_main_code) := ⟨rfl, rfl, rfl, by decide +kernel, rfl, by decide +kernel, by decide +kernel⟩
  have nd := S.nd
  have h_law_body_code := H_law_body_code (P := P) (base := base) T 6
  have h_law_code := H_law_code (P := P) (base := base) T 5
  refine (Has.of (k := 11) F T.g__law_main_code S (fun _ _ _ _ _ _ us hl => match us, hl with | [_], _ => rfl) fun cdv A outer s H E O => ?_).pureD
  exact (x_one (x_ret (e_bin or_add f_add (e_bin or_add f_add (e_call O h_law_body_code (by omega) (a_cons (e_ix (or_ix O) f_ix (e_var 0) e_int) (a_cons e_int a_nil)) (cons_n (cons_n nil_n))) (e_call O h_law_code (by omega) (a_cons (e_ix (or_ix O) f_ix (e_var 0) e_int) a_nil) (cons_n nil_n))) (e_lst (a_cons (e_tup (a_cons e_str a_nil)) a_nil)))))
theorem H_law_tree (T : Facts w K mg) : Has P w K mg base "_law_tree" 1 13 m_law_tree := by
  obtain ⟨fd, F⟩ := T.d__law_tree
  have S : FnScope ["deal", "body", "tree", "turn", "k"] ["deal"] (defScope st__law_tree) := ⟨rfl, rfl, rfl, by decide +kernel, rfl, by decide +kernel, by decide +kernel⟩
  have nd := S.nd
  have h_law_expr := H_law_expr (P := P) (base := base) T 4
  have h_law_main_code := H_law_main_code (P := P) (base := base) T
  have h_law_statement := H_law_statement (P := P) (base := base) T 3
  have h_law_take := H_law_take (P := P) (base := base) T
  refine (Has.of (k := 12) F T.g__law_tree S (fun _ _ _ _ _ _ us hl => match us, hl with | [_], _ => rfl) fun cdv A outer s H E O => ?_)
  exact (x_cons (x_setLc 1 (own := [("k", 4)]) O.calm nd rfl rfl (sw_true rfl rfl rfl (by decide +kernel)) (pi_range1 rfl T.b_range (a_cons (e_bin or_add f_add e_int (e_call O h_law_take (by omega) (a_cons (e_var 0) (a_cons e_int a_nil)) (cons_n (cons_n nil_n)))) a_nil)) src_r1 (blkOk_by (by kernel_rfl)) (fun s H C cl fp => blkG O fun O => (gw_name 4 (by decide) nd)) (fun s H C cl fp => blkT O fun O => ts_nil) (fun s H C cl fp => blkE O fun O => (e_call O h_law_statement (by omega) (a_cons (e_var 0) (a_cons e_int a_nil)) (cons_n (cons_n nil_n)))))
    (x_cons (x_set 2 nd (e_tup (a_cons (e_call O h_law_expr (by omega) (a_cons (e_var 0) (a_cons e_int (a_cons e_int a_nil))) (cons_n (cons_n (cons_n nil_n)))) (a_cons (e_var 1) (a_cons (e_call O h_law_expr (by omega) (a_cons (e_var 0) (a_cons e_int (a_cons e_int a_nil))) (cons_n (cons_n (cons_n nil_n)))) a_nil)))))
    (x_cons (x_for O.hp O.calm (pi_range1 rfl T.b_range (a_cons e_int a_nil)) src_r1 (g_name 3 nd)
    (x_one (x_if (t_cmp op_gt f_gt (e_callB or_len f_len rfl T.b_len (by decide +kernel) (a_cons (e_call O h_law_main_code (by omega) (a_cons (e_var 2) a_nil) (cons_n nil_n)) a_nil)) e_int)
    (x_one (x_set 2 nd (e_tup (a_cons (e_ix (or_ix O) f_ix (e_var 2) e_int) (a_cons (e_sl (e_ix (or_ix O) f_ix (e_var 2) e_int) o_none (o_some (e_un un_neg f_neg e_int))) (a_cons (e_ix (or_ix O) f_ix (e_var 2) e_int) a_nil))))))
    x_nil)) (plain_name _))
    (x_one (x_ret (e_var 2))))))
theorem H_law_parts (T : Facts w K mg) : Has P w K mg base "_law_parts" 1 13 m_law_parts := by
  obtain ⟨fd, F⟩ := T.d__law_parts
  have S : FnScope ["tree", "pair", "two", "f", "pair2", "lib", "uses", "go"] ["tree"] (defScope st__law_parts) := ⟨rfl, rfl, rfl, by decide +kernel, rfl, by decide +kernel, by decide +kernel⟩
  have nd := S.nd
  have h_law_code := H_law_code (P := P) (base := base) T 5
  have h_law_main_code := H_law_main_code (P := P) (base := base) T
  refine (Has.of (k := 12) F T.g__law_parts S (fun _ _ _ _ _ _ us hl => match us, hl with | [_], _ => rfl) fun cdv A outer s H E O => ?_).pureD
  exact (x_cons (x_set 1 nd (e_tup (a_cons e_str (a_cons (e_tup (a_cons e_str (a_cons e_str a_nil))) a_nil))))
    (x_cons (x_set 2 nd (e_lst (a_cons (e_tup (a_cons e_str (a_cons e_str a_nil))) (a_cons (e_tup (a_cons e_str (a_cons e_int a_nil))) (a_cons (e_tup (a_cons e_str (a_cons e_int a_nil))) (a_cons (e_tup (a_cons e_str (a_cons e_int a_nil))) (a_cons (e_tup (a_cons e_str (a_cons e_str (a_cons e_int a_nil)))) (a_cons (e_tup (a_cons e_str (a_cons e_int a_nil))) (a_cons (e_tup (a_cons e_str (a_cons e_int a_nil))) a_nil)))))))))
    (x_cons (x_set 2 nd (e_callTy call_tuple_of f_tup rfl T.b_tuple (by decide +kernel) (a_cons (e_bin or_add f_add (e_var 2) (e_lst (a_cons (e_tup (a_cons e_str (a_cons e_str (a_cons e_int a_nil)))) (a_cons (e_tup (a_cons e_str (a_cons e_int a_nil))) (a_cons (e_tup (a_cons e_str a_nil)) a_nil))))) a_nil)))
    (x_cons (x_set 3 nd (e_tup (a_cons e_str (a_cons (e_tup (a_cons e_str (a_cons e_str a_nil))) (a_cons e_str (a_cons (e_tup a_nil) (a_cons (e_callTy call_tuple_of f_tup rfl T.b_tuple (by decide +kernel) (a_cons (e_bin or_add f_add (e_call O h_law_code (by omega) (a_cons (e_ix (or_ix O) f_ix (e_var 0) e_int) a_nil) (cons_n nil_n)) (e_lst (a_cons (e_tup (a_cons e_str a_nil)) a_nil))) a_nil)) a_nil)))))))
    (x_cons (x_set 4 nd (e_tup (a_cons e_str (a_cons (e_tup (a_cons e_str (a_cons e_str a_nil))) (a_cons e_str (a_cons (e_tup (a_cons e_str a_nil)) (a_cons (e_var 2) a_nil)))))))
    (x_cons (x_set 5 nd (e_tup (a_cons e_str (a_cons (e_tup (a_cons (e_tup (a_cons e_str (a_cons (e_ix (or_ix O) f_ix (e_var 1) e_int) a_nil))) a_nil)) (a_cons (e_tup a_nil) (a_cons (e_tup (a_cons (e_var 3) (a_cons (e_var 4) a_nil))) (a_cons (e_tup (a_cons e_str (a_cons e_str (a_cons e_str a_nil)))) a_nil)))))))
    (x_cons (x_set 6 nd (e_tup (a_cons (e_tup (a_cons e_str (a_cons e_str (a_cons (e_ix (or_ix O) f_ix (e_var 1) e_int) a_nil)))) (a_cons (e_tup (a_cons e_str (a_cons e_str (a_cons (e_tup (a_cons e_str (a_cons e_str a_nil))) (a_cons e_str a_nil))))) (a_cons (e_tup (a_cons e_str (a_cons e_str (a_cons (e_tup (a_cons e_str (a_cons e_str a_nil))) (a_cons e_str a_nil))))) a_nil)))))
    (x_cons (x_set 7 nd (e_tup (a_cons e_str (a_cons (e_tup (a_cons e_str (a_cons e_str a_nil))) (a_cons e_str (a_cons (e_tup (a_cons e_str (a_cons e_str (a_cons e_str (a_cons e_str a_nil))))) (a_cons (e_callTy call_tuple_of f_tup rfl T.b_tuple (by decide +kernel) (a_cons (e_call O h_law_main_code (by omega) (a_cons (e_var 0) a_nil) (cons_n nil_n)) a_nil)) a_nil)))))))
    (x_one (x_ret (e_tup (a_cons (e_var 5) (a_cons (e_tup (a_cons e_str (a_cons (e_tup a_nil) (a_cons (e_var 6) (a_cons (e_tup (a_cons (e_var 7) a_nil)) (a_cons (e_tup (a_cons e_str a_nil)) a_nil)))))) a_nil)))))))))))))
theorem H_law_drawn (T : Facts w K mg) : Has P w K mg base "_law_drawn" 2 4 m_law_drawn := by
  obtain ⟨fd, F⟩ := T.d__law_drawn
  have S : FnScope ["deal", "size", "choice"] ["deal", "size"] (defScope st__law_drawn) := ⟨rfl, rfl, rfl, by decide +kernel, rfl, by decide +kernel, by decide +kernel⟩
  have nd := S.nd
  have h_law_pick := H_law_pick (P := P) (base := base) T
  have h_law_take := H_law_take (P := P) (base := base) T
  have h_law_word := H_law_word (P := P) (base := base) T
  refine (Has.of (k := 3) F T.g__law_drawn S (fun _ _ _ _ _ _ us hl => match us, hl with | [_, _], _ => rfl) fun cdv A outer s H E O => ?_)
  exact (x_cons (x_set 2 nd (e_call O h_law_take (by omega) (a_cons (e_var 0) (a_cons e_int a_nil)) (cons_n (cons_n nil_n))))
    (x_cons (x_if (t_cmp or_lt f_lt (e_var 2) e_int)
    (x_one (x_ret (e_tup (a_cons e_str (a_cons (e_call O h_law_word (by omega) (a_cons (e_var 0) a_nil) (cons_n nil_n)) a_nil)))))
    x_nil)
    (x_cons (x_if (t_cmp or_lt f_lt (e_var 2) e_int)
    (x_one (x_ret (e_tup (a_cons (e_call O h_law_pick (by omega) (a_cons (e_var 0) (a_cons (e_lst (a_cons e_str (a_cons e_str a_nil))) a_nil)) (cons_n (cons_n nil_n))) (a_cons (e_call O h_law_take (by omega) (a_cons (e_var 0) (a_cons e_int a_nil)) (cons_n (cons_n nil_n))) a_nil)))))
    x_nil)
    (x_cons (x_if (t_cmp (or_eq O) f_eq (e_var 2) e_int)
    (x_one (x_ret (e_tup (a_cons (e_call O h_law_pick (by omega) (a_cons (e_var 0) (a_cons (e_lst (a_cons e_str (a_cons e_str a_nil))) a_nil)) (cons_n (cons_n nil_n))) (a_cons (e_call O h_law_take (by omega) (a_cons (e_var 0) (a_cons (e_bin or_add f_add (e_var 1) e_int) a_nil)) (cons_n (cons_n nil_n))) a_nil)))))
    x_nil)
    (x_cons (x_if (t_cmp (or_eq O) f_eq (e_var 2) e_int)
    (x_one (x_ret (e_tup (a_cons (e_call O h_law_pick (by omega) (a_cons (e_var 0) (a_cons (e_lst (a_cons e_str (a_cons e_str a_nil))) a_nil)) (cons_n (cons_n nil_n))) (a_cons e_str (a_cons (e_call O h_law_take (by omega) (a_cons (e_var 0) (a_cons e_int a_nil)) (cons_n (cons_n nil_n))) a_nil))))))
    x_nil)
    (x_cons (x_if (t_cmp (or_eq O) f_eq (e_var 2) e_int)
    (x_one (x_ret (e_call O h_law_pick (by omega) (a_cons (e_var 0) (a_cons (e_lst (a_cons (e_tup (a_cons e_str (a_cons e_str a_nil))) (a_cons (e_tup (a_cons e_str (a_cons e_str a_nil))) (a_cons (e_tup (a_cons e_str (a_cons e_str a_nil))) (a_cons (e_tup (a_cons e_str (a_cons e_str a_nil))) (a_cons (e_tup (a_cons e_str (a_cons e_str a_nil))) (a_cons (e_tup (a_cons e_str (a_cons e_str a_nil))) a_nil))))))) a_nil)) (cons_n (cons_n nil_n)))))
    x_nil)
    (x_one (x_ret (e_tup (a_cons (e_call O h_law_pick (by omega) (a_cons (e_var 0) (a_cons (e_lst (a_cons e_str (a_cons e_str (a_cons e_str (a_cons e_str (a_cons e_str (a_cons e_str (a_cons e_str (a_cons e_str (a_cons e_str (a_cons e_str (a_cons e_str (a_cons e_str (a_cons e_str (a_cons e_str a_nil))))))))))))))) a_nil)) (cons_n (cons_n nil_n))) a_nil))))))))))
theorem H_law_function (T : Facts w K mg) : Has P w K mg base "_law_function" 2 13 m_law_function := by
  obtain ⟨fd, F⟩ := T.d__law_function
  have S : FnScope ["deal", "tree", "code", "at", "size", "k"] ["deal", "tree"] (defScope st__law_function) := ⟨rfl, rfl, rfl, by decide +kernel, rfl, by decide +kernel, by decide +kernel⟩
  have nd := S.nd
  have h_law_drawn := H_law_drawn (P := P) (base := base) T
  have h_law_main_code := H_law_main_code (P := P) (base := base) T
  have h_law_take := H_law_take (P := P) (base := base) T
  refine (Has.of (k := 12) F T.g__law_function S (fun _ _ _ _ _ _ us hl => match us, hl with | [_, _], _ => rfl) fun cdv A outer s H E O => ?_).scope
  exact (x_cons (x_if (t_cmp (or_eq O) f_eq (e_call O h_law_take (by omega) (a_cons (e_var 0) (a_cons e_int a_nil)) (cons_n (cons_n nil_n))) e_int)
    (x_cons (x_set 2 nd (e_callTy (or_list O.calm) f_listN rfl T.b_list (by decide +kernel) (a_cons (e_call O h_law_main_code (by omega) (a_cons (e_var 1) a_nil) (cons_n nil_n)) a_nil)))
    (x_cons (x_set 3 nd (e_call O h_law_take (by omega) (a_cons (e_var 0) (a_cons (e_callB or_len f_len rfl T.b_len (by decide +kernel) (a_cons (e_var 2) a_nil)) a_nil)) (cons_n (cons_n nil_n))))
    (x_one (x_asg (e_call O h_law_drawn (by omega) (a_cons (e_var 0) (a_cons (e_callB or_len f_len rfl T.b_len (by decide +kernel) (a_cons (e_var 2) a_nil)) a_nil)) (cons_n (cons_n nil_n))) (g_sub (e_var 2) (e_var 3) (or_set O) f_set) (hnx := plain_sub)))))
    (x_cons (x_set 4 nd (e_bin or_add f_add e_int (e_call O h_law_take (by omega) (a_cons (e_var 0) (a_cons e_int a_nil)) (cons_n (cons_n nil_n)))))
    (x_one (x_set 2 nd (e_bin or_add f_add (e_lc (own := [("k", 5)]) O.calm nd (pi_range1 rfl T.b_range (a_cons (e_var 4) a_nil)) src_r1 (blkOk_by (by kernel_rfl)) (fun s H C cl fp => blkG O fun O => (gw_name 5 (by decide) nd)) (fun s H C cl fp => blkT O fun O => ts_nil) (fun s H C cl fp => blkE O fun O => (e_call O h_law_drawn (by omega) (a_cons (e_var 0) (a_cons (e_var 4) a_nil)) (cons_n (cons_n nil_n))))) (e_lst (a_cons (e_tup (a_cons e_str (a_cons e_int a_nil))) (a_cons (e_tup (a_cons e_str a_nil)) a_nil))))))))
    (x_one (x_ret (e_tup (a_cons e_str (a_cons (e_tup (a_cons e_str (a_cons e_str a_nil))) (a_cons e_str (a_cons (e_tup (a_cons e_str (a_cons e_str (a_cons e_str (a_cons e_str a_nil))))) (a_cons (e_callTy call_tuple_of f_tup rfl T.b_tuple (by decide +kernel) (a_cons (e_var 2) a_nil)) a_nil)))))))))
theorem H_law_behind (T : Facts w K mg) : Has P w K mg base "_law_behind" 2 1 m_law_behind := by
  obtain ⟨fd, F⟩ := T.d__law_behind
  have S : FnScope ["instruction", "stack", "slots", "word", "takes", "leaves", "more", "asked", "left", "field", "size"] ["instruction", "stack"] (defScope st__law_behind) := ⟨rfl, rfl, rfl, by decide +kernel, rfl, by decide +kernel, by decide +kernel⟩
  have nd := S.nd
  refine (Has.of (k := 0) F T.g__law_behind S (fun _ _ _ _ _ _ us hl => match us, hl with | [_, _], _ => rfl) fun cdv A outer s H E O => ?_).pureD
  exact (x_cons (x_set 2 nd (e_lst (a_cons e_str (a_cons e_str (a_cons e_str (a_cons e_str (a_cons e_str (a_cons e_str a_nil))))))))
    (x_cons (x_set 3 nd (e_ix (or_ix O) f_ix (e_var 0) e_int))
    (x_cons (x_set 4 nd (e_dic (pp_cons e_str (e_lst (a_cons e_str (a_cons e_str a_nil))) (pp_cons e_str (e_lst (a_cons e_str (a_cons e_str a_nil))) (pp_cons e_str (e_lst (a_cons e_str (a_cons e_str a_nil))) (pp_cons e_str (e_lst (a_cons e_str (a_cons e_str a_nil))) (pp_cons e_str (e_lst (a_cons e_str (a_cons e_str a_nil))) (pp_cons e_str (e_lst (a_cons e_str (a_cons e_str a_nil))) pp_nil))))))))
    (x_cons (x_set 5 nd (e_dic (pp_cons e_str (e_lst (a_cons e_str a_nil)) (pp_cons e_str (e_lst (a_cons e_str a_nil)) (pp_cons e_str (e_lst (a_cons e_str a_nil)) (pp_cons e_str (e_lst (a_cons e_str a_nil)) (pp_cons e_str (e_lst (a_cons e_str a_nil)) (pp_cons e_str (e_lst (a_cons e_str a_nil)) (pp_cons e_str (e_lst (a_cons e_str a_nil)) (pp_cons e_str (e_lst (a_cons e_str a_nil)) (pp_cons e_str (e_lst (a_cons e_str a_nil)) (pp_cons e_str (e_lst (a_cons e_str a_nil)) pp_nil))))))))))))
    (x_cons (x_set 6 nd (e_dic (pp_cons e_str (e_lst a_nil) (pp_cons e_str (e_lst (a_cons e_str a_nil)) (pp_cons e_str (e_lst (a_cons e_str (a_cons e_str a_nil))) (pp_cons e_str (e_lst (a_cons e_str (a_cons e_str (a_cons e_str a_nil)))) (pp_cons e_str (e_lst (a_cons e_str a_nil)) (pp_cons e_str (e_lst (a_cons e_str a_nil)) (pp_cons e_str (e_lst (a_cons e_str a_nil)) (pp_cons e_str (e_lst a_nil) (pp_cons e_str (e_lst a_nil) pp_nil)))))))))))
    (x_cons (x_set 1 nd (e_callTy (or_list O.calm) f_list rfl T.b_list (by decide +kernel) (a_cons (e_var 1) a_nil)))
    (x_cons (x_if (PW.pt (w_or (t_cmp (or_in O) f_in (e_var 3) (e_var 4)) (w_or1 (t_cmp (or_in O) f_in (e_var 3) (e_var 6)))))
    (x_cons (x_set 7 nd (e_if (t_cmp (or_in O) f_in (e_var 3) (e_var 4)) (e_ix (or_ix O) f_ix (e_var 4) (e_var 3)) (e_ix (or_ix O) f_ix (e_var 6) (e_var 3))))
    (x_one (x_set 8 nd (e_if (t_cmp (or_in O) f_in (e_var 3) (e_var 5)) (e_ix (or_ix O) f_ix (e_var 5) (e_var 3)) (e_lst a_nil)))))
    (x_one (x_if (t_cmp (or_eq O) f_eq (e_var 3) e_str)
    (x_one (x_par2 7 8 O.calm nd (a_cons (e_lst a_nil) (a_cons (e_lst (a_cons (e_ix (or_ix O) f_ix (e_var 2) (e_ix (or_ix O) f_ix (e_var 0) e_int)) a_nil)) a_nil))))
    (x_one (x_if (t_cmp (or_eq O) f_eq (e_var 3) e_str)
    (x_one (x_par2 7 8 O.calm nd (a_cons (e_lst (a_cons (e_ix (or_ix O) f_ix (e_var 2) (e_ix (or_ix O) f_ix (e_var 0) e_int)) a_nil)) (a_cons (e_lst a_nil) a_nil))))
    (x_one (x_if (t_cmp (or_eq O) f_eq (e_var 3) e_str)
    (x_one (x_par2 7 8 O.calm nd (a_cons (e_lst a_nil) (a_cons (e_lst (a_cons (e_ix (or_ix O) f_ix (e_var 0) e_int) a_nil)) a_nil))))
    (x_one (x_if (t_cmp (or_eq O) f_eq (e_var 3) e_str)
    (x_one (x_asg (e_if (t_cmp (or_eq O) f_eq (e_ix (or_ix O) f_ix (e_var 0) e_int) e_str) (e_tup (a_cons (e_lst (a_cons e_str (a_cons e_str a_nil))) (a_cons (e_lst (a_cons e_str a_nil)) a_nil))) (e_tup (a_cons (e_lst (a_cons e_str (a_cons e_str a_nil))) (a_cons (e_lst (a_cons e_str a_nil)) a_nil)))) (g_tup O.calm (gs_cons (g_name 7 nd) (gs_cons (g_name 8 nd) gs_nil)) (hok := gsq_names [7, 8])) (hnx := (plain_names [7, 8]))))
    (x_one (x_if (t_cmp (or_in O) f_in (e_var 3) (e_lst (a_cons e_str (a_cons e_str (a_cons e_str a_nil)))))
    (x_cons (x_if (PW.pt (w_or (t_cmp (or_ne O) f_ne (e_ix (or_ix O) f_ix (e_var 0) e_int) e_str) (w_or1 (PW.pt (w_and (t_cmp (or_ne O) f_ne (e_var 3) e_str) (w_and1 (t_cmp op_gt f_gt (e_ix (or_ix O) f_ix (e_var 0) e_int) e_int)))))))
    (x_one (x_ret e_non))
    x_nil)
    (x_cons (x_set 9 nd (e_if (t_cmp (or_eq O) f_eq (e_var 3) e_str) e_str (e_ix (or_ix O) f_ix (e_lst (a_cons e_str (a_cons e_str a_nil))) (e_ix (or_ix O) f_ix (e_var 0) e_int))))
    (x_cons (x_set 7 nd (e_if (t_cmp (or_eq O) f_eq (e_var 3) e_str) (e_lst a_nil) (e_if (t_cmp (or_eq O) f_eq (e_var 3) e_str) (e_lst (a_cons e_str a_nil)) (e_lst (a_cons e_str (a_cons (e_var 9) a_nil))))))
    (x_one (x_set 8 nd (e_if (t_cmp (or_eq O) f_eq (e_var 3) e_str) (e_lst (a_cons e_str a_nil)) (e_if (t_cmp (or_eq O) f_eq (e_var 3) e_str) (e_lst (a_cons (e_var 9) a_nil)) (e_lst a_nil))))))))
    (x_one (x_if (t_cmp (or_in O) f_in (e_var 3) (e_lst (a_cons e_str (a_cons e_str (a_cons e_str a_nil)))))
    (x_cons (x_if (PW.pt (w_or (t_cmp (or_eq O) f_eq (e_callB or_len f_len rfl T.b_len (by decide +kernel) (a_cons (e_var 1) a_nil)) e_int) (w_or1 (PW.pt (w_and (t_cmp (or_eq O) f_eq (e_var 3) e_str) (w_and1 (t_cmp (or_eq O) f_eq (e_ix (or_ix O) f_ix (e_var 1) (e_un un_neg f_neg e_int)) e_str)))))))
    (x_one (x_ret e_non))
    x_nil)
    (x_cons (x_set 7 nd (e_sl (e_var 1) (o_some (e_un un_neg f_neg e_int)) o_none))
    (x_one (x_set 8 nd (e_if (t_cmp (or_eq O) f_eq (e_var 3) e_str) (e_lst a_nil) (e_if (t_cmp (or_eq O) f_eq (e_var 3) e_str) (e_bin or_add f_add (e_var 7) (e_var 7)) (e_lst (a_cons e_str a_nil))))))))
    (x_one (x_if (t_cmp (or_eq O) f_eq (e_var 3) e_str)
    (x_cons (x_if (PW.pt (w_or (t_cmp or_lt f_lt (e_callB or_len f_len rfl T.b_len (by decide +kernel) (a_cons (e_var 1) a_nil)) e_int) (w_or (t_cmp (or_eq O) f_eq (e_ix (or_ix O) f_ix (e_var 1) (e_un un_neg f_neg e_int)) e_str) (w_or1 (t_cmp (or_ne O) f_ne (e_ix (or_ix O) f_ix (e_var 1) (e_un un_neg f_neg e_int)) (e_ix (or_ix O) f_ix (e_var 1) (e_un un_neg f_neg e_int)))))))
    (x_one (x_ret e_non))
    x_nil)
    (x_one (x_par2 7 8 O.calm nd (a_cons (e_sl (e_var 1) (o_some (e_un un_neg f_neg e_int)) o_none) (a_cons (e_lst (a_cons e_str a_nil)) a_nil)))))
    (x_one (x_ret (e_if (t_cmp (or_eq O) f_eq (e_var 1) (e_lst (a_cons e_str a_nil))) (e_tup a_nil) e_non))))))))))))))))))
    (x_cons (x_set 10 nd (e_bin op_sub f_sub (e_callB or_len f_len rfl T.b_len (by decide +kernel) (a_cons (e_var 1) a_nil)) (e_callB or_len f_len rfl T.b_len (by decide +kernel) (a_cons (e_var 7) a_nil))))
    (x_one (x_ret (e_if (PW.pt (w_and (t_cmp op_ge f_ge (e_var 10) e_int) (w_and1 (t_cmp (or_eq O) f_eq (e_sl (e_var 1) (o_some (e_var 10)) o_none) (e_var 7))))) (e_callTy call_tuple_of f_tup rfl T.b_tuple (by decide +kernel) (a_cons (e_bin or_add f_add (e_sl (e_var 1) o_none (o_some (e_var 10))) (e_var 8)) a_nil)) e_non)))))))))))
theorem H_law_steps (T : Facts w K mg) : Has P w K mg base "_law_steps" 3 2 m_law_steps := by
  obtain ⟨fd, F⟩ := T.d__law_steps
  have S : FnScope ["code", "place", "stack", "word", "behind"] ["code", "place", "stack"] (defScope st__law_steps) := ⟨rfl, rfl, rfl, by decide +kernel, rfl, by decide +kernel, by decide +kernel⟩
  have nd := S.nd
  have h_law_behind := H_law_behind (P := P) (base := base) T
  refine (Has.of (k := 1) F T.g__law_steps S (fun _ _ _ _ _ _ us hl => match us, hl with | [_, _, _], _ => rfl) fun cdv A outer s H E O => ?_).pureD
  exact (x_cons (x_if (t_not (t_chain op_le or_lt f_le f_lt e_int (e_var 1) (e_callB or_len f_len rfl T.b_len (by decide +kernel) (a_cons (e_var 0) a_nil))))
    (x_one (x_ret e_non))
    x_nil)
    (x_cons (x_set 3 nd (e_ix (or_ix O) f_ix (e_ix (or_ix O) f_ix (e_var 0) (e_var 1)) e_int))
    (x_cons (x_set 4 nd (e_call O h_law_behind (by omega) (a_cons (e_ix (or_ix O) f_ix (e_var 0) (e_var 1)) (a_cons (e_var 2) a_nil)) (cons_n (cons_n nil_n))))
    (x_cons (x_if (PW.pt (w_or (t_cmp op_isN f_isN (e_var 4) e_non) (w_or1 (t_cmp (or_in O) f_in (e_var 3) (e_lst (a_cons e_str (a_cons e_str a_nil)))))))
    (x_one (x_ret (e_if (t_cmp op_isN f_isN (e_var 4) e_non) e_non (e_lst a_nil))))
    x_nil)
    (x_cons (x_if (t_cmp (or_eq O) f_eq (e_var 3) e_str)
    (x_one (x_ret (e_lst (a_cons (e_tup (a_cons (e_ix (or_ix O) f_ix (e_ix (or_ix O) f_ix (e_var 0) (e_var 1)) e_int) (a_cons (e_var 4) a_nil))) a_nil))))
    x_nil)
    (x_cons (x_if (PW.pt (w_and (t_cmp (or_eq O) f_eq (e_var 3) e_str) (w_and1 (t_cmp (or_ne O) f_ne (e_ix (or_ix O) f_ix (e_ix (or_ix O) f_ix (e_var 0) (e_var 1)) e_int) (e_bin or_add f_add (e_var 1) e_int)))))
    (x_one (x_ret (e_callB cr_sort2 f_sort2 rfl T.b_sorted (by decide +kernel) (a_cons (e_lst (a_cons (e_tup (a_cons (e_bin or_add f_add (e_var 1) e_int) (a_cons (e_var 4) a_nil))) (a_cons (e_tup (a_cons (e_ix (or_ix O) f_ix (e_ix (or_ix O) f_ix (e_var 0) (e_var 1)) e_int) (a_cons (e_var 4) a_nil))) a_nil))) a_nil))))
    x_nil)
    (x_one (x_ret (e_lst (a_cons (e_tup (a_cons (e_bin or_add f_add (e_var 1) e_int) (a_cons (e_var 4) a_nil))) a_nil))))))))))
theorem H_law_map (T : Facts w K mg) : Has P w K mg base "_law_map" 2 3 m_law_map := by
  obtain ⟨fd, F⟩ := T.d__law_map
  have S : FnScope ["code", "paper", "place", "steps", "later", "stack"] ["code", "paper"] (defScope st__law_map) := ⟨rfl, rfl, rfl, by decide +kernel, rfl, by decide +kernel, by decide +kernel⟩
  have nd := S.nd
  have h_law_steps := H_law_steps (P := P) (base := base) T
  refine (Has.of (k := 2) F T.g__law_map S (fun _ _ _ _ _ _ us hl => match us, hl with | [_, _], _ => rfl) fun cdv A outer s H E O => ?_).pureD
  exact (x_cons (x_if (PW.pt (w_or (t_cmp (or_notIn O) f_notIn e_int (e_var 1)) (w_or1 (t_cmp (or_ne O) f_ne (e_ix (or_ix O) f_ix (e_var 1) e_int) (e_tup a_nil)))))
    (x_one (x_ret e_bl))
    x_nil)
    (x_cons (x_forK 1 O.hp O.calm (g_name 2 nd)
    (x_cons (x_set 3 nd (e_call O h_law_steps (by omega) (a_cons (e_var 0) (a_cons (e_var 2) (a_cons (e_ix (or_ix O) f_ix (e_var 1) (e_var 2)) a_nil))) (cons_n (cons_n (cons_n nil_n)))))
    (x_cons (x_if (t_cmp op_isN f_isN (e_var 3) e_non)
    (x_one (x_ret e_bl))
    x_nil)
    (x_one (x_for O.hp O.calm (pi_sq (e_var 3)) src_sq (g_tup O.calm (gs_cons (g_name 4 nd) (gs_cons (g_name 5 nd) gs_nil)) (hok := gsq_names [4, 5]))
    (x_one (x_if (PW.pt (w_or (t_cmp (or_notIn O) f_notIn (e_var 4) (e_var 1)) (w_or1 (t_cmp (or_ne O) f_ne (e_ix (or_ix O) f_ix (e_var 1) (e_var 4)) (e_var 5)))))
    (x_one (x_ret e_bl))
    x_nil)) (plain_names [4, 5]))))) (plain_name _))
    (x_one (x_ret e_bl))))
theorem H_law_along (T : Facts w K mg) : Has P w K mg base "_law_along" 2 3 m_law_along := by
  obtain ⟨fd, F⟩ := T.d__law_along
  have S : FnScope ["code", "path", "stack", "k", "steps", "there", "place", "later"] ["code", "path"] (defScope st__law_along) := ⟨rfl, rfl, rfl, by decide +kernel, rfl, by decide +kernel, by decide +kernel⟩
  have nd := S.nd
  have h_law_steps := H_law_steps (P := P) (base := base) T
  refine (Has.of (k := 2) F T.g__law_along S (fun _ _ _ _ _ _ us hl => match us, hl with | [_, _], _ => rfl) fun cdv A outer s H E O => ?_).pureD
  exact (x_cons (x_if (PW.pt (w_or (t_cmp (or_eq O) f_eq (e_callB or_len f_len rfl T.b_len (by decide +kernel) (a_cons (e_var 1) a_nil)) e_int) (w_or1 (t_cmp (or_ne O) f_ne (e_ix (or_ix O) f_ix (e_var 1) e_int) e_int))))
    (x_one (x_ret e_non))
    x_nil)
    (x_cons (x_set 2 nd (e_tup a_nil))
    (x_cons (x_for O.hp O.calm (pi_range2 rfl T.b_range (a_cons e_int (a_cons (e_callB or_len f_len rfl T.b_len (by decide +kernel) (a_cons (e_var 1) a_nil)) a_nil))) src_r2 (g_name 3 nd)
    (x_cons (x_set 4 nd (e_call O h_law_steps (by omega) (a_cons (e_var 0) (a_cons (e_ix (or_ix O) f_ix (e_var 1) (e_bin op_sub f_sub (e_var 3) e_int)) (a_cons (e_var 2) a_nil))) (cons_n (cons_n (cons_n nil_n)))))
    (x_cons (x_set 5 nd (e_if (t_cmp op_isN f_isN (e_var 4) e_non) (e_lst a_nil) (e_lc (own := [("place", 6), ("later", 7)]) O.calm nd (pi_sq (e_var 4)) src_sq (blkOk_by (by kernel_rfl)) (fun s H C cl fp => blkG O fun O => (gw_tup (is := [6, 7]) O.calm (gsw_cons (gw_name 6 (by decide) nd) (gsw_cons (gw_name 7 (by decide) nd) gsw_nil)))) (fun s H C cl fp => blkT O fun O => (ts_one (t_cmp (or_eq O) f_eq (e_var 6) (e_ix (or_ix O) f_ix (e_var 1) (e_var 3))))) (fun s H C cl fp => blkE O fun O => (e_var 7)))))
    (x_cons (x_if (t_cmp (or_eq O) f_eq (e_callB or_len f_len rfl T.b_len (by decide +kernel) (a_cons (e_var 5) a_nil)) e_int)
    (x_one (x_ret e_non))
    x_nil)
    (x_one (x_set 2 nd (e_ix (or_ix O) f_ix (e_var 5) e_int)))))) (plain_name _))
    (x_one (x_ret (e_var 2))))))
theorem H_law_fault (T : Facts w K mg) : Has P w K mg base "_law_fault" 2 4 m_law_fault := by
  obtain ⟨fd, F⟩ := T.d__law_fault
  have S : FnScope ["code", "paper", "stack", "other"] ["code", "paper"] (defScope st__law_fault) := ⟨rfl, rfl, rfl, by decide +kernel, rfl, by decide +kernel, by decide +kernel⟩
  have nd := S.nd
  have h_law_along := H_law_along (P := P) (base := base) T
  have h_law_steps := H_law_steps (P := P) (base := base) T
  refine (Has.of (k := 3) F T.g__law_fault S (fun _ _ _ _ _ _ us hl => match us, hl with | [_, _], _ => rfl) fun cdv A outer s H E O => ?_).pureD
  exact (x_cons (x_set 2 nd (e_call O h_law_along (by omega) (a_cons (e_var 0) (a_cons (e_ix (or_ix O) f_ix (e_var 1) e_int) a_nil)) (cons_n (cons_n nil_n))))
    (x_cons (x_if (t_cmp op_isN f_isN (e_var 2) e_non)
    (x_one (x_ret e_bl))
    x_nil)
    (x_cons (x_if (t_cmp (or_eq O) f_eq (e_ix (or_ix O) f_ix (e_var 1) e_int) e_str)
    (x_one (x_ret (e_and (e_cmp (or_eq O) f_eq (e_callB or_len f_len rfl T.b_len (by decide +kernel) (a_cons (e_var 1) a_nil)) e_int) (e_one (e_cmp op_isN f_isN (e_call O h_law_steps (by omega) (a_cons (e_var 0) (a_cons (e_ix (or_ix O) f_ix (e_ix (or_ix O) f_ix (e_var 1) e_int) (e_un un_neg f_neg e_int)) (a_cons (e_var 2) a_nil))) (cons_n (cons_n (cons_n nil_n)))) e_non)))))
    x_nil)
    (x_cons (x_if (PW.pt (w_or (t_cmp (or_ne O) f_ne (e_ix (or_ix O) f_ix (e_var 1) e_int) e_str) (w_or1 (t_cmp (or_ne O) f_ne (e_callB or_len f_len rfl T.b_len (by decide +kernel) (a_cons (e_var 1) a_nil)) e_int))))
    (x_one (x_ret e_bl))
    x_nil)
    (x_cons (x_set 3 nd (e_call O h_law_along (by omega) (a_cons (e_var 0) (a_cons (e_ix (or_ix O) f_ix (e_var 1) e_int) a_nil)) (cons_n (cons_n nil_n))))
    (x_one (x_ret (e_and (e_cmp op_notN f_notN (e_var 3) e_non) (e_and (e_cmp (or_eq O) f_eq (e_ix (or_ix O) f_ix (e_ix (or_ix O) f_ix (e_var 1) e_int) (e_un un_neg f_neg e_int)) (e_ix (or_ix O) f_ix (e_ix (or_ix O) f_ix (e_var 1) e_int) (e_un un_neg f_neg e_int))) (e_one (e_cmp (or_ne O) f_ne (e_var 3) (e_var 2))))))))))))
theorem H_law_least (T : Facts w K mg) : Has P w K mg base "_law_least" 1 3 m_law_least := by
  obtain ⟨fd, F⟩ := T.d__law_least
  have S : FnScope ["code", "found", "order", "at", "steps", "later", "stack"] ["code"] (defScope st__law_least) := ⟨rfl, rfl, rfl, by decide +kernel, rfl, by decide +kernel, by decide +kernel⟩
  have nd := S.nd
  have h_law_steps := H_law_steps (P := P) (base := base) T
  refine (Has.of (k := 2) F T.g__law_least S (fun _ _ _ _ _ _ us hl => match us, hl with | [_], _ => rfl) fun cdv A outer s H E O => ?_).pureD
  exact (x_cons (x_set 1 nd e_dicN0)
    (x_cons (x_asg (e_tup a_nil) (g_sub (e_var 1) e_int (or_set O) f_set) (hnx := plain_sub))
    (x_cons (x_set 2 nd (e_lstN (a_cons e_int a_nil)))
    (x_cons (x_for O.hp O.calm (pi_range1 rfl T.b_range (a_cons e_int a_nil)) src_r1 (g_name 3 nd)
    (x_one (x_if (t_cmp or_lt f_lt (e_var 3) (e_callB or_len f_len rfl T.b_len (by decide +kernel) (a_cons (e_var 2) a_nil)))
    (x_cons (x_set 4 nd (e_call O h_law_steps (by omega) (a_cons (e_var 0) (a_cons (e_ix (or_ix O) f_ix (e_var 2) (e_var 3)) (a_cons (e_ix (or_ix O) f_ix (e_var 1) (e_ix (or_ix O) f_ix (e_var 2) (e_var 3))) a_nil))) (cons_n (cons_n (cons_n nil_n)))))
    (x_cons (x_if (t_cmp op_isN f_isN (e_var 4) e_non)
    (x_one (x_ret e_non))
    x_nil)
    (x_one (x_for O.hp O.calm (pi_sq (e_var 4)) src_sq (g_tup O.calm (gs_cons (g_name 5 nd) (gs_cons (g_name 6 nd) gs_nil)) (hok := gsq_names [5, 6]))
    (x_cons (x_if (PW.pt (w_and (t_cmp (or_in O) f_in (e_var 5) (e_var 1)) (w_and1 (t_cmp (or_ne O) f_ne (e_ix (or_ix O) f_ix (e_var 1) (e_var 5)) (e_var 6)))))
    (x_one (x_ret e_non))
    x_nil)
    (x_one (x_if (t_cmp (or_notIn O) f_notIn (e_var 5) (e_var 1))
    (x_cons (x_asg (e_var 6) (g_sub (e_var 1) (e_var 5) (or_set O) f_set) (hnx := plain_sub))
    (x_one (x_exp (e_append (e_var 2) (a_cons (e_var 5) a_nil)))))
    x_nil))) (plain_names [5, 6])))))
    x_nil)) (plain_name _))
    (x_one (x_ret (e_var 1)))))))
theorem H_law_changed_map (T : Facts w K mg) : Has P w K mg base "_law_changed_map" 2 3 m_law_changed_map := by
  obtain ⟨fd, F⟩ := T.d__law_changed_map
  have S : FnScope ["deal", "paper", "bent", "places", "at", "one", "other", "place", "less", "more"] ["deal", "paper"] (defScope st__law_changed_map) := ⟨rfl, rfl, rfl, by decide +kernel, rfl, by decide +kernel, by decide +kernel⟩
  have nd := S.nd
  have h_law_pick := H_law_pick (P := P) (base := base) T
  refine (Has.of (k := 2) F T.g__law_changed_map S (fun _ _ _ _ _ _ us hl => match us, hl with | [_, _], _ => rfl) fun cdv A outer s H E O => ?_).scope
  exact (x_cons (x_set 2 nd (e_lstN (a_cons (e_var 1) a_nil)))
    (x_cons (x_set 3 nd (e_callB cr_sortedI f_sortI rfl T.b_sorted (by decide +kernel) (a_cons (e_callTy (or_list O.calm) f_list rfl T.b_list (by decide +kernel) (a_cons (e_var 1) a_nil)) a_nil)))
    (x_cons (x_set 4 nd (e_call O h_law_pick (by omega) (a_cons (e_var 0) (a_cons (e_var 3) a_nil)) (cons_n (cons_n nil_n))))
    (x_cons (x_for O.hp O.calm (pi_sq (e_lst (a_cons (e_tup a_nil) (a_cons (e_tup (a_cons e_str a_nil)) (a_cons (e_tup (a_cons e_str a_nil)) a_nil))))) src_sq (g_name 5 nd)
    (x_cons (x_set 6 nd e_dicN0)
    (x_cons (x_forK 1 O.hp O.calm (g_name 7 nd)
    (x_one (x_asg (e_if (t_cmp (or_eq O) f_eq (e_var 7) (e_var 4)) (e_var 5) (e_ix (or_ix O) f_ix (e_var 1) (e_var 7))) (g_sub (e_var 6) (e_var 7) (or_set O) f_set) (hnx := plain_sub))) (plain_name _))
    (x_one (x_exp (e_append (e_var 2) (a_cons (e_var 6) a_nil)))))) (plain_name _))
    (x_cons (x_set 8 nd e_dicN0)
    (x_cons (x_set 9 nd e_dicN0)
    (x_cons (x_forK 1 O.hp O.calm (g_name 7 nd)
    (x_cons (x_asg (e_ix (or_ix O) f_ix (e_var 1) (e_var 7)) (g_sub (e_var 9) (e_var 7) (or_set O) f_set) (hnx := plain_sub))
    (x_one (x_if (t_cmp (or_ne O) f_ne (e_var 7) (e_var 4))
    (x_one (x_asg (e_ix (or_ix O) f_ix (e_var 1) (e_var 7)) (g_sub (e_var 8) (e_var 7) (or_set O) f_set) (hnx := plain_sub)))
    x_nil))) (plain_name _))
    (x_cons (x_asg (e_tup (a_cons e_str a_nil)) (g_sub (e_var 9) (e_bin or_add f_add (e_ix (or_ix O) f_ix (e_var 3) (e_un un_neg f_neg e_int)) e_int) (or_set O) f_set) (hnx := plain_sub))
    (x_one (x_ret (e_bin or_add f_add (e_var 2) (e_lst (a_cons (e_var 8) (a_cons (e_var 9) (a_cons e_dicN0 a_nil)))))))))))))))
theorem H_law (T : Facts w K mg) {fd : FuncData} (F : FunD K "law" "law" (defArgs st_law) (defBody st_law) (defScope st_law) [] [] (He.ga K "law") fd) : FnOk P w K mg base (L2.CX P w) 14 (He.ga K "law") fd ["script"] (spOf K 1 m_law) := by
  have S : FnScope ["script", "deal", "tree", "lib", "main", "function", "code", "part", "due", "told", "fault", "one", "path", "drawn", "turn", "place", "stack"] ["script"] (defScope st_law) := ⟨rfl, rfl, rfl, by decide +kernel, rfl, by decide +kernel, by decide +kernel⟩
  have nd := S.nd
  have h_law_bool := H_law_bool (P := P) (base := base) T
  have h_law_changed_map := H_law_changed_map (P := P) (base := base) T
  have h_law_deal := H_law_deal (P := P) (base := base) T
  have h_law_fault := H_law_fault (P := P) (base := base) T
  have h_law_function := H_law_function (P := P) (base := base) T
  have h_law_least := H_law_least (P := P) (base := base) T
  have h_law_map := H_law_map (P := P) (base := base) T
  have h_law_parts := H_law_parts (P := P) (base := base) T
  have h_law_pick := H_law_pick (P := P) (base := base) T
  have h_law_same := H_law_same (P := P) (base := base) T 12
  have h_law_steps := H_law_steps (P := P) (base := base) T
  have h_law_take := H_law_take (P := P) (base := base) T
  have h_law_tree := H_law_tree (P := P) (base := base) T
  have h_fault_paper := H_fault_paper (P := P) (base := base) T
  have h_is_accepted := H_is_accepted (P := P) (base := base) T
  have h_least_map := H_least_map (P := P) (base := base) T
  have h_shows_fault := H_shows_fault (P := P) (base := base) T
  have h_shows_map := H_shows_map (P := P) (base := base) T
  have h_steps_of := H_steps_of (P := P) (base := base) T
  refine fn_of (k := 13) F S fun cdv A outer s H E O => ?_
  exact (x_cons (x_set 1 nd (e_call O h_law_deal (by omega) (a_cons (e_var 0) a_nil) (cons_n nil_n)))
    (x_cons (x_set 2 nd (e_call O h_law_tree (by omega) (a_cons (e_var 1) a_nil) (cons_n nil_n)))
    (x_cons (x_asg (e_call O h_law_parts (by omega) (a_cons (e_var 2) a_nil) (cons_n nil_n)) (g_tup O.calm (gs_cons (g_name 3 nd) (gs_cons (g_name 4 nd) gs_nil)) (hok := gsq_names [3, 4])) (hnx := (plain_names [3, 4])))
    (x_cons (x_set 5 nd (e_call O h_law_function (by omega) (a_cons (e_var 1) (a_cons (e_var 2) a_nil)) (cons_n (cons_n nil_n))))
    (x_cons (x_set 6 nd (e_ix (or_ix O) f_ix (e_var 5) e_int))
    (x_cons (x_set 7 nd (e_tup (a_cons e_str (a_cons (e_ix (or_ix O) f_ix (e_var 4) e_int) (a_cons (e_ix (or_ix O) f_ix (e_var 4) e_int) (a_cons (e_tup (a_cons (e_var 5) a_nil)) (a_cons (e_ix (or_ix O) f_ix (e_var 4) e_int) a_nil)))))))
    (x_cons (x_set 8 nd (e_call O h_law_least (by omega) (a_cons (e_var 6) a_nil) (cons_n nil_n)))
    (x_cons (x_set 9 nd (e_call O h_least_map (by omega) (a_cons (e_var 7) (a_cons (e_var 5) a_nil)) (cons_n (cons_n nil_n))))
    (x_cons (x_set 10 nd (e_call O h_fault_paper (by omega) (a_cons (e_var 7) (a_cons (e_var 5) a_nil)) (cons_n (cons_n nil_n))))
    (x_cons (x_if (PW.pt (w_or (t_cmp (or_eq O) f_eq (e_cmp op_isN f_isN (e_var 9) e_non) (e_cmp op_isN f_isN (e_var 10) e_non)) (w_or (t_cmp (or_ne O) f_ne (e_cmp op_isN f_isN (e_var 8) e_non) (e_cmp op_isN f_isN (e_var 9) e_non)) (w_or1 (t_not (t_val (e_call O h_law_bool (by omega) (a_cons (e_call O h_is_accepted (by omega) (a_cons (e_var 7) a_nil) (cons_n nil_n)) (a_cons (e_cmp op_notN f_notN (e_var 8) e_non) a_nil)) (cons_n (cons_n nil_n)))))))))
    (x_one (x_ret e_bl))
    x_nil)
    (x_cons (x_if (t_cmp op_notN f_notN (e_var 9) e_non)
    (x_cons (x_if (PW.pt (w_or (t_cmp (or_ne2 O) f_ne2 (e_var 9) (e_var 8)) (w_or1 (t_not (t_val (e_call O h_law_map (by omega) (a_cons (e_var 6) (a_cons (e_var 9) a_nil)) (cons_n (cons_n nil_n))))))))
    (x_one (x_ret e_bl))
    x_nil)
    (x_one (x_for O.hp O.calm (pi_sq (e_call O h_law_changed_map (by omega) (a_cons (e_var 1) (a_cons (e_var 9) a_nil)) (cons_n (cons_n nil_n)))) src_sq (g_name 11 nd)
    (x_one (x_if (t_not (t_val (e_call O h_law_bool (by omega) (a_cons (e_call O h_shows_map (by omega) (a_cons (e_var 7) (a_cons (e_var 5) (a_cons (e_var 11) a_nil))) (cons_n (cons_n (cons_n nil_n)))) (a_cons (e_call O h_law_map (by omega) (a_cons (e_var 6) (a_cons (e_var 11) a_nil)) (cons_n (cons_n nil_n))) a_nil)) (cons_n (cons_n nil_n)))))
    (x_one (x_ret e_bl))
    x_nil)) (plain_name _))))
    x_nil)
    (x_cons (x_set 12 nd (e_if (t_cmp op_notN f_notN (e_var 10) e_non) (e_ix (or_ix O) f_ix (e_var 10) e_int) (e_tupRg1 O.calm rfl T.b_tuple rfl T.b_range (e_bin or_add f_add e_int (e_call O h_law_take (by omega) (a_cons (e_var 1) (a_cons (e_callB or_len f_len rfl T.b_len (by decide +kernel) (a_cons (e_var 6) a_nil)) a_nil)) (cons_n (cons_n nil_n)))))))
    (x_cons (x_set 13 nd (e_lst (a_cons (e_tup (a_cons e_str (a_cons (e_var 12) a_nil))) (a_cons (e_tup (a_cons e_str (a_cons (e_sl (e_var 12) o_none (o_some (e_un un_neg f_neg e_int))) a_nil))) (a_cons (e_tup (a_cons e_str (a_cons (e_bin or_add f_add (e_var 12) (e_tup (a_cons (e_bin or_add f_add (e_ix (or_ix O) f_ix (e_var 12) (e_un un_neg f_neg e_int)) e_int) a_nil))) a_nil))) (a_cons (e_tup (a_cons e_str (a_cons (e_var 12) (a_cons (e_var 12) a_nil)))) (a_cons (e_tup (a_cons e_str (a_cons (e_var 12) (a_cons (e_sl (e_var 12) o_none (o_some e_int)) a_nil)))) (a_cons (e_tup (a_cons e_str (a_cons (e_tup a_nil) a_nil))) (a_cons (e_tup (a_cons e_str (a_cons (e_var 12) a_nil))) (a_cons (e_tup (a_cons e_str (a_cons (e_tup (a_cons e_int a_nil)) a_nil))) a_nil))))))))))
    (x_cons (x_for O.hp O.calm (pi_sq (e_bin or_add f_add (e_var 13) (e_if (t_cmp op_notN f_notN (e_var 10) e_non) (e_lst (a_cons (e_var 10) (a_cons (e_sl (e_var 10) o_none (o_some e_int)) a_nil))) (e_lst a_nil)))) src_sq (g_name 11 nd)
    (x_one (x_if (t_not (t_val (e_call O h_law_bool (by omega) (a_cons (e_call O h_shows_fault (by omega) (a_cons (e_var 7) (a_cons (e_var 5) (a_cons (e_var 11) a_nil))) (cons_n (cons_n (cons_n nil_n)))) (a_cons (e_call O h_law_fault (by omega) (a_cons (e_var 6) (a_cons (e_var 11) a_nil)) (cons_n (cons_n nil_n))) a_nil)) (cons_n (cons_n nil_n)))))
    (x_one (x_ret e_bl))
    x_nil)) (plain_name _))
    (x_cons (x_if (PW.pt (w_and (t_cmp op_notN f_notN (e_var 10) e_non) (w_and1 (t_not (t_val (e_call O h_law_fault (by omega) (a_cons (e_var 6) (a_cons (e_var 10) a_nil)) (cons_n (cons_n nil_n))))))))
    (x_one (x_ret e_bl))
    x_nil)
    (x_cons (x_for O.hp O.calm (pi_range1 rfl T.b_range (a_cons e_int a_nil)) src_r1 (g_name 14 nd)
    (x_cons (x_set 15 nd (e_call O h_law_take (by omega) (a_cons (e_var 1) (a_cons (e_bin or_add f_add (e_callB or_len f_len rfl T.b_len (by decide +kernel) (a_cons (e_var 6) a_nil)) e_int) a_nil)) (cons_n (cons_n nil_n))))
    (x_cons (x_set 16 nd (e_call O h_law_pick (by omega) (a_cons (e_var 1) (a_cons (e_lst (a_cons (e_tup a_nil) (a_cons (e_tup (a_cons e_str a_nil)) (a_cons (e_tup (a_cons e_str (a_cons e_str a_nil))) (a_cons (e_tup (a_cons e_str a_nil)) (a_cons (e_tup (a_cons e_str (a_cons e_str a_nil))) (a_cons (e_tup (a_cons e_str (a_cons e_str a_nil))) (a_cons (e_tup (a_cons e_str (a_cons e_str (a_cons e_str a_nil)))) (a_cons (e_tup (a_cons e_str (a_cons e_str a_nil))) a_nil))))))))) a_nil)) (cons_n (cons_n nil_n))))
    (x_one (x_if (t_not (t_val (e_call O h_law_same (by omega) (a_cons (e_call O h_steps_of (by omega) (a_cons (e_var 7) (a_cons (e_var 5) (a_cons (e_var 15) (a_cons (e_var 16) a_nil)))) (cons_n (cons_n (cons_n (cons_n nil_n))))) (a_cons (e_call O h_law_steps (by omega) (a_cons (e_var 6) (a_cons (e_var 15) (a_cons (e_var 16) a_nil))) (cons_n (cons_n (cons_n nil_n)))) a_nil)) (cons_n (cons_n nil_n)))))
    (x_one (x_ret e_bl))
    x_nil)))) (plain_name _))
    (x_one (x_ret e_bl))))))))))))))))))
end
end K02
end
section
set_option Elab.async false
set_option linter.all false
set_option maxRecDepth 100000
set_option maxHeartbeats 4000000
set_option autoImplicit false
namespace K02
open PySem PySem.Spec PyProof.Rows L2 VM
inductive Ty where
  | int | ints | pair
deriving DecidableEq
def Ty.s : Ty → Str
  | .int => "int" | .ints => "ints" | .pair => "lib.pair"
def Ty.a (t : Ty) : A := .str t.s
def tys (s : List Ty) : List A := s.map Ty.a
def stk (s : List Ty) : A := .tup (tys s)
@[simp] theorem tys_length (s : List Ty) : (tys s).length = s.length := List.length_map _
@[simp] theorem tys_drop (s : List Ty) (n : Nat) : (tys s).drop n = tys (s.drop n) := by simp [tys, List.map_drop]
@[simp] theorem tys_take (s : List Ty) (n : Nat) : (tys s).take n = tys (s.take n) := by simp [tys, List.map_take]
@[simp] theorem tys_app (s t : List Ty) : tys s ++ tys t = tys (s ++ t) := by simp [tys]
@[simp] theorem closed_tys : ∀ s : List Ty, closedL (tys s) = true
  | [] => rfl
  | x :: s => by show (closed x.a && closedL (tys s)) = true; rw [closed_tys s]; rfl
theorem Ty.inj {a b : Ty} (h : a.s = b.s) : a = b := by
  cases a <;> cases b <;> first | rfl | exact absurd h (by simp [Ty.s])
/-! comparing -/
def typ (s : List Ty) : List PyData := s.map fun t => .str t.s
theorem toPyL_tys : ∀ s : List Ty, toPyL (tys s) = some (typ s)
  | [] => rfl
  | x :: s => by
    show (match toPy x.a, toPyL (tys s) with | some d, some ds => some (d :: ds) | _, _ => none) = _
    rw [toPyL_tys s]; rfl
theorem can_tys : ∀ s : List Ty, PyData.canLayAll0 (typ s) = true
  | [] => rfl
  | x :: s => by
    show (PyData.canLay0 (.str x.s) && PyData.canLayAll0 (typ s)) = true
    rw [can_tys s]
    cases x <;> decide +kernel
theorem eqv_tys : ∀ s t : List Ty, PyData.eqvAll (typ s) (typ t) = decide (s = t)
  | [], [] => rfl
  | [], _ :: _ => rfl
  | _ :: _, [] => rfl
  | x :: s, y :: t => by
    show (PyData.eqv (.str x.s) (.str y.s) && PyData.eqvAll (typ s) (typ t)) = _
    rw [eqv_tys s t]
    show ((x.s == y.s) && _) = _
    by_cases h : x = y
    · subst h; simp
    · have : (x.s == y.s) = false := beq_eq_false_iff_ne.mpr fun e => h (Ty.inj e)
      rw [this]; simp [h]
theorem depth_tys : ∀ s : List Ty, PyData.depthAll (typ s) ≤ 1
  | [] => by decide
  | x :: s => by
    show max (PyData.depth (.str x.s)) (PyData.depthAll (typ s)) ≤ 1
    have := depth_tys s
    have h : PyData.depth (.str x.s) ≤ 1 := by cases x <;> decide
    omega
theorem shaped_tup (s : List Ty) : SeqAt.shaped (.tuple (typ s)) = true := by
  have := depth_tys s
  refine Bool.and_eq_true_iff.mpr ⟨can_tys s, decide_eq_true ?_⟩
  show PyData.depthAll (typ s) + 1 ≤ 64
  omega
theorem shaped_lst (s : List Ty) : SeqAt.shaped (.list (typ s)) = true := by
  have := depth_tys s
  refine Bool.and_eq_true_iff.mpr ⟨can_tys s, decide_eq_true ?_⟩
  show PyData.depthAll (typ s) + 1 ≤ 64
  omega
theorem eqA_tup (s t : List Ty) : eqA (.tup (tys s)) (.tup (tys t)) = some (decide (s = t)) := by
  show (match toPy (.tup (tys s)), toPy (.tup (tys t)) with | some d, some e => if SeqAt.shaped d && SeqAt.shaped e then some (PyData.eqv d e) else none | _, _ => none) = _
  have h : ∀ s, toPy (.tup (tys s)) = some (.tuple (typ s)) := fun s => by show (toPyL (tys s)).map _ = _; rw [toPyL_tys]; rfl
  rw [h, h]
  simp only [shaped_tup, Bool.and_self, if_true]
  rw [← eqv_tys]; rfl
theorem eqA_lst (s t : List Ty) : eqA (.lst (tys s)) (.lst (tys t)) = some (decide (s = t)) := by
  show (match toPy (.lst (tys s)), toPy (.lst (tys t)) with | some d, some e => if SeqAt.shaped d && SeqAt.shaped e then some (PyData.eqv d e) else none | _, _ => none) = _
  have h : ∀ s, toPy (.lst (tys s)) = some (.list (typ s)) := fun s => by show (toPyL (tys s)).map _ = _; rw [toPyL_tys]; rfl
  rw [h, h]
  simp only [shaped_lst, Bool.and_self, if_true]
  rw [← eqv_tys]; rfl
@[simp] theorem opEq_tup (s t : List Ty) (S : Store) : opEq (.tup (tys s)) (.tup (tys t)) S = .ok (.bl (decide (s = t))) S := opEq_of (eqA_tup s t)
@[simp] theorem opNe_tup (s t : List Ty) (S : Store) : opNe (.tup (tys s)) (.tup (tys t)) S = .ok (.bl (!decide (s = t))) S := opNe_of (eqA_tup s t)
@[simp] theorem opEq_lst (s t : List Ty) (S : Store) : opEq (.lst (tys s)) (.lst (tys t)) S = .ok (.bl (decide (s = t))) S := opEq_of (eqA_lst s t)
@[simp] theorem opNe_lst (s t : List Ty) (S : Store) : opNe (.lst (tys s)) (.lst (tys t)) S = .ok (.bl (!decide (s = t))) S := opNe_of (eqA_lst s t)
/-- taken(stack, types) -/
def takenT (s t : List Ty) : Option (List Ty) := if t.length ≤ s.length ∧ s.drop (s.length - t.length) = t then some (s.take (s.length - t.length)) else none
def encO : Option (List Ty) → A
  | some s => .tup (tys s)
  | none => .non
theorem cutA_from (xs : List A) (k : Nat) (h : k ≤ xs.length) : cutA xs (some (k : Int)) none = xs.drop k := by
  unfold cutA
  rw [HT.sIx_nat, HT.sIx_none, Nat.min_eq_left h, List.take_of_length_le (by rw [List.length_drop]; omega)]
theorem cutA_to (xs : List A) (k : Nat) (h : k ≤ xs.length) : cutA xs none (some (k : Int)) = xs.take k := by
  unfold cutA
  rw [HT.sIx_nat, HT.sIx_none, Nat.min_eq_left h]; simp
theorem taken_ok (s t : List Ty) (S : Store) : m_taken [.tup (tys s), .tup (tys t)] S = .ok (encO (takenT s t)) S := by
  unfold m_taken
  rw [pureF_ap _ _ (by simp)]
  unfold takenT
  by_cases h : t.length ≤ s.length
  · have e : ((s.length : Int) - t.length) = ((s.length - t.length : Nat) : Int) := by omega
    have h0 : ¬ (((s.length - t.length : Nat) : Int) < 0) := by omega
    by_cases hd : s.drop (s.length - t.length) = t
    · simp [b_taken, b_taken_0, b_taken_1, e, h0, cutA_from, cutA_to, h, hd, encO, pu_ok]
    · simp [b_taken, b_taken_0, b_taken_1, e, h0, cutA_from, cutA_to, h, hd, encO, pu_ok]
  · have h0 : ((s.length : Int) - t.length) < 0 := by omega
    simp [b_taken, b_taken_0, b_taken_1, h0, h, encO, pu_ok]
def changedT (s t l : List Ty) : Option (List Ty) := (takenT s t).map (· ++ l)
theorem changed_ok (s t l : List Ty) (S : Store) (h : s.length ≤ 1000) (hl : l.length ≤ 1000) : m_changed [.tup (tys s), .tup (tys t), .tup (tys l)] S = .ok (encO (changedT s t l)) S := by
  unfold m_changed
  rw [pureF_ap _ _ (by simp)]
  unfold changedT
  cases e : takenT s t with
  | none => simp [b_changed, b_changed_0, taken_ok, e, encO, pu_ok]
  | some r =>
    have hr : r.length ≤ s.length := by
      unfold takenT at e
      split at e
      · cases e; rw [List.length_take]; omega
      · cases e
    have hz : r.length + l.length ≤ LINE := by show _ ≤ 16777216; omega
    simp [b_changed, b_changed_0, taken_ok, e, encO, pu_ok, opAdd_tup, hz]
/-! ### instructions -/
inductive Ins where
  | push (w : Int) | load (i : Fin 6) | store (i : Fin 6)
  | add | sub | mul | div | less | same
  | row | at_ | put | size | say | trap
  | jump (t : Int) | branch (t : Int)
  | new | newN | nilP | nilI
  | get (f : Fin 3) | set (f : Fin 3)
  | drop | dup | isnil | alike | callF | callP | ret
def Ins.e : Ins → A
  | .push w => .tup [.str "push", .int w]
  | .load i => .tup [.str "load", .int i.val]
  | .store i => .tup [.str "store", .int i.val]
  | .add => .tup [.str "add"] | .sub => .tup [.str "sub"] | .mul => .tup [.str "mul"] | .div => .tup [.str "div"] | .less => .tup [.str "less"] | .same => .tup [.str "same"]
  | .row => .tup [.str "row"] | .at_ => .tup [.str "at"] | .put => .tup [.str "put"] | .size => .tup [.str "size"] | .say => .tup [.str "say"] | .trap => .tup [.str "trap"]
  | .jump t => .tup [.str "jump", .int t]
  | .branch t => .tup [.str "branch", .int t]
  | .new => .tup [.str "new", .str "lib.pair"]
  | .newN => .tup [.str "new", .str "lib.none"]
  | .nilP => .tup [.str "nil", .str "lib.pair"]
  | .nilI => .tup [.str "nil", .str "ints"]
  | .get f => .tup [.str "get", .str "lib.pair", .int f.val]
  | .set f => .tup [.str "set", .str "lib.pair", .int f.val]
  | .drop => .tup [.str "drop"] | .dup => .tup [.str "dup"] | .isnil => .tup [.str "isnil"] | .alike => .tup [.str "alike"]
  | .callF => .tup [.str "call", .str "lib.f"]
  | .callP => .tup [.str "call", .str "lib.pair2"]
  | .ret => .tup [.str "return"]
def slotT (i : Fin 6) : Ty := if i.val = 4 then .pair else .int
/-- what the stack is behind an instruction -/
def beh (i : Ins) (s : List Ty) : Option (List Ty) := match i with
  | .push _ => changedT s [] [.int]
  | .load i => some (s ++ [slotT i])
  | .store i => takenT s [slotT i]
  | .add | .sub | .mul | .div | .less | .same => changedT s [.int, .int] [.int]
  | .row => changedT s [.int] [.ints]
  | .at_ => changedT s [.ints, .int] [.int]
  | .put => changedT s [.ints, .int, .int] []
  | .size => changedT s [.ints] [.int]
  | .say => changedT s [.int] []
  | .trap | .jump _ => changedT s [] []
  | .branch _ => changedT s [.int] []
  | .new => some (s ++ [.pair])
  | .newN => none
  | .nilP => some (s ++ [.pair])
  | .nilI => some (s ++ [.ints])
  | .get f => if f.val = 0 then changedT s [.pair] [.int] else if f.val = 1 then changedT s [.pair] [.pair] else none
  | .set f => if f.val = 0 then changedT s [.pair, .int] [] else if f.val = 1 then changedT s [.pair, .pair] [] else none
  | .drop => if s = [] then none else some s.dropLast
  | .dup => match s.getLast? with
    | none => none
    | some t => some (s ++ [t])
  | .isnil => match s.getLast? with
    | none => none
    | some t => if t = .int then none else some (s.dropLast ++ [.int])
  | .alike => match s.getLast?, s.dropLast.getLast? with
    | some t, some u => if t = .int ∨ t ≠ u then none else some (s.dropLast.dropLast ++ [.int])
    | _, _ => none
  | .callF => changedT s [.int, .int] [.int]
  | .callP => changedT s [.int, .pair] [.pair]
  | .ret => if s = [.int] then some [] else none
def pairF : A := .tup [.str "int", .str "lib.pair"]
def usesA : A := .tup [.tup [.str "rec", .str "lib.pair", pairF], .tup [.str "fun", .str "lib.f", .tup [.str "int", .str "int"], .str "int"], .tup [.str "fun", .str "lib.pair2", pairF, .str "lib.pair"]]
def codeA (c : List Ins) : A := .tup (c.map Ins.e)
def fnA (c : List Ins) : A := .tup [.str "go", .tup [.str "int", .str "int"], .str "int", .tup [.str "int", .str "int", .str "lib.pair", .str "int"], codeA c]
def partA (c : List Ins) : A := .tup [.str "main", .tup [], usesA, .tup [fnA c], .tup [.str "go"]]
theorem closed_ins (i : Ins) : closed i.e = true := by cases i <;> rfl
theorem closed_inss : ∀ c : List Ins, closedL (c.map Ins.e) = true
  | [] => rfl
  | x :: c => by show (closed x.e && _) = true; rw [closed_ins, closed_inss c]; rfl
@[simp] theorem closed_code (c : List Ins) : closed (codeA c) = true := closed_inss c
@[simp] theorem closed_fn (c : List Ins) : closed (fnA c) = true := by simp [fnA]
@[simp] theorem closed_part (c : List Ins) : closed (partA c) = true := by simp [partA, usesA, pairF]
theorem takenT_len {s t r : List Ty} (h : takenT s t = some r) : r.length ≤ s.length := by
  unfold takenT at h
  split at h
  · cases h; rw [List.length_take]; omega
  · cases h
theorem lb_fin (s t l : List Ty) (h : s.length ≤ 1000) (hl : l.length ≤ 1000) (e0 e2 e3 e4 e5 e6 e9 e10 : Option A) (S : Store) :
    (b_law_behind_1 [e0, some (.lst (tys s)), e2, e3, e4, e5, e6, some (.lst (tys t)), some (.lst (tys l)), e9, e10] []).fin.pu S = .ok (encO (changedT s t l)) S := by
  unfold changedT
  by_cases hle : t.length ≤ s.length
  · have e : ((s.length : Int) - t.length) = ((s.length - t.length : Nat) : Int) := by omega
    by_cases hd : s.drop (s.length - t.length) = t
    · have ht : takenT s t = some (s.take (s.length - t.length)) := by unfold takenT; rw [if_pos ⟨hle, hd⟩]
      have hz : (s.take (s.length - t.length)).length + l.length ≤ LINE := by rw [List.length_take, LINE_eq]; omega
      simp at hz
      simp [b_law_behind_1, b_law_behind_0, e, cutA_from, cutA_to, hd, ht, encO, pu_ok, opAdd_lst, hz]
    · have ht : takenT s t = none := by unfold takenT; rw [if_neg fun z => hd z.2]
      simp [b_law_behind_1, b_law_behind_0, e, cutA_from, cutA_to, hd, ht, encO, pu_ok]
  · have ht : takenT s t = none := by unfold takenT; rw [if_neg fun z => hle z.1]
    have h0 : ¬ (0 ≤ ((s.length : Int) - t.length)) := by omega
    simp [b_law_behind_1, b_law_behind_0, hle, ht, encO]
theorem changedT_nil (s l : List Ty) : changedT s [] l = some (s ++ l) := by
  unfold changedT takenT
  simp
theorem changedT_take (s t : List Ty) : changedT s t [] = takenT s t := by
  unfold changedT
  cases takenT s t <;> simp
theorem snoc_cases {α : Type} (s : List α) : s = [] ∨ ∃ r x, s = r ++ [x] := by
  rcases List.eq_nil_or_concat s with h | ⟨r, x, h⟩
  · exact .inl h
  · exact .inr ⟨r, x, by simpa using h⟩
theorem atI_neg {α : Type} (xs : List α) (k : Nat) (h : k < xs.length) : L2.atI xs (-((k : Int) + 1)) = xs[xs.length - 1 - k]? := by
  unfold L2.atI L2.ixN
  rw [if_neg (by omega), if_pos (by omega)]
  show xs[_]? = _
  congr 1
  omega
theorem ix_last (r : List Ty) (x : Ty) (S : Store) : opIx (.tup (tys (r ++ [x]))) (.int (-1)) S = .ok x.a S := by
  refine opIx_tup ?_
  have := atI_neg (tys (r ++ [x])) 0 (by simp)
  rw [show (-1 : Int) = -(((0 : Nat) : Int) + 1) from rfl, this]
  simp [tys]
theorem ix_lastL (r : List Ty) (x : Ty) (S : Store) : opIx (.lst (tys (r ++ [x]))) (.int (-1)) S = .ok x.a S := by
  refine opIx_lst ?_
  have := atI_neg (tys (r ++ [x])) 0 (by simp)
  rw [show (-1 : Int) = -(((0 : Nat) : Int) + 1) from rfl, this]
  simp [tys]
theorem ix_last2 (r : List Ty) (y x : Ty) (S : Store) : opIx (.tup (tys (r ++ [y, x]))) (.int (-2)) S = .ok y.a S := by
  refine opIx_tup ?_
  have := atI_neg (tys (r ++ [y, x])) 1 (by simp)
  rw [show (-2 : Int) = -(((1 : Nat) : Int) + 1) from rfl, this]
  simp [tys]
theorem ix_last2L (r : List Ty) (y x : Ty) (S : Store) : opIx (.lst (tys (r ++ [y, x]))) (.int (-2)) S = .ok y.a S := by
  refine opIx_lst ?_
  have := atI_neg (tys (r ++ [y, x])) 1 (by simp)
  rw [show (-2 : Int) = -(((1 : Nat) : Int) + 1) from rfl, this]
  simp [tys]
theorem sIx_neg (n d k : Nat) : HT.sIx n d (some (-((k : Int) + 1))) = n - (k + 1) := by
  show (if (-((k : Int) + 1)) < 0 then ((-((k : Int) + 1)) + (n : Int)).toNat else _) = _
  rw [if_pos (by omega)]
  omega
theorem cut_from_neg (xs : List A) (k : Nat) : cutA xs (some (-((k : Int) + 1))) none = xs.drop (xs.length - (k + 1)) := by
  unfold cutA
  rw [sIx_neg, HT.sIx_none, List.take_of_length_le (by rw [List.length_drop]; omega)]
theorem cut_to_neg (xs : List A) (k : Nat) : cutA xs none (some (-((k : Int) + 1))) = xs.take (xs.length - (k + 1)) := by
  unfold cutA
  rw [sIx_neg, HT.sIx_none]; simp
@[simp] theorem cut_m1 (xs : List A) : cutA xs (some (-1)) none = xs.drop (xs.length - 1) := cut_from_neg xs 0
@[simp] theorem cut_m2 (xs : List A) : cutA xs (some (-2)) none = xs.drop (xs.length - 2) := cut_from_neg xs 1
@[simp] theorem cut_t1 (xs : List A) : cutA xs none (some (-1)) = xs.take (xs.length - 1) := cut_to_neg xs 0
@[simp] theorem cut_t2 (xs : List A) : cutA xs none (some (-2)) = xs.take (xs.length - 2) := cut_to_neg xs 1
theorem changedT_snoc (r t l : List Ty) : changedT (r ++ t) t l = some (r ++ l) := by
  unfold changedT takenT
  simp
theorem law_behind_ok (i : Ins) (s : List Ty) (S : Store) (h : s.length ≤ 1000) : m_law_behind [i.e, .tup (tys s)] S = .ok (encO (beh i s)) S := by
  unfold m_law_behind
  rw [pureF_ap _ _ (by simp [closed_ins])]
  cases i with
  | push w =>
    simp [b_law_behind, b_law_behind_7, b_law_behind_6, b_law_behind_5, b_law_behind_4, b_law_behind_3, b_law_behind_2, Ins.e, vdk_law_behind_0, vdk_law_behind_1, vdk_law_behind_2]
    exact lb_fin s [] [.int] h (by decide) _ _ _ _ _ _ _ _ S
  | add =>
    simp [b_law_behind, b_law_behind_7, b_law_behind_6, b_law_behind_5, b_law_behind_4, b_law_behind_3, b_law_behind_2, Ins.e, vdk_law_behind_0, vdk_law_behind_1, vdk_law_behind_2]
    exact lb_fin s [.int, .int] [.int] h (by decide) _ _ _ _ _ _ _ _ S
  | sub =>
    simp [b_law_behind, b_law_behind_7, b_law_behind_6, b_law_behind_5, b_law_behind_4, b_law_behind_3, b_law_behind_2, Ins.e, vdk_law_behind_0, vdk_law_behind_1, vdk_law_behind_2]
    exact lb_fin s [.int, .int] [.int] h (by decide) _ _ _ _ _ _ _ _ S
  | mul =>
    simp [b_law_behind, b_law_behind_7, b_law_behind_6, b_law_behind_5, b_law_behind_4, b_law_behind_3, b_law_behind_2, Ins.e, vdk_law_behind_0, vdk_law_behind_1, vdk_law_behind_2]
    exact lb_fin s [.int, .int] [.int] h (by decide) _ _ _ _ _ _ _ _ S
  | div =>
    simp [b_law_behind, b_law_behind_7, b_law_behind_6, b_law_behind_5, b_law_behind_4, b_law_behind_3, b_law_behind_2, Ins.e, vdk_law_behind_0, vdk_law_behind_1, vdk_law_behind_2]
    exact lb_fin s [.int, .int] [.int] h (by decide) _ _ _ _ _ _ _ _ S
  | less =>
    simp [b_law_behind, b_law_behind_7, b_law_behind_6, b_law_behind_5, b_law_behind_4, b_law_behind_3, b_law_behind_2, Ins.e, vdk_law_behind_0, vdk_law_behind_1, vdk_law_behind_2]
    exact lb_fin s [.int, .int] [.int] h (by decide) _ _ _ _ _ _ _ _ S
  | same =>
    simp [b_law_behind, b_law_behind_7, b_law_behind_6, b_law_behind_5, b_law_behind_4, b_law_behind_3, b_law_behind_2, Ins.e, vdk_law_behind_0, vdk_law_behind_1, vdk_law_behind_2]
    exact lb_fin s [.int, .int] [.int] h (by decide) _ _ _ _ _ _ _ _ S
  | row =>
    simp [b_law_behind, b_law_behind_7, b_law_behind_6, b_law_behind_5, b_law_behind_4, b_law_behind_3, b_law_behind_2, Ins.e, vdk_law_behind_0, vdk_law_behind_1, vdk_law_behind_2]
    exact lb_fin s [.int] [.ints] h (by decide) _ _ _ _ _ _ _ _ S
  | at_ =>
    simp [b_law_behind, b_law_behind_7, b_law_behind_6, b_law_behind_5, b_law_behind_4, b_law_behind_3, b_law_behind_2, Ins.e, vdk_law_behind_0, vdk_law_behind_1, vdk_law_behind_2]
    exact lb_fin s [.ints, .int] [.int] h (by decide) _ _ _ _ _ _ _ _ S
  | put =>
    simp [b_law_behind, b_law_behind_7, b_law_behind_6, b_law_behind_5, b_law_behind_4, b_law_behind_3, b_law_behind_2, Ins.e, vdk_law_behind_0, vdk_law_behind_1, vdk_law_behind_2]
    exact lb_fin s [.ints, .int, .int] [] h (by decide) _ _ _ _ _ _ _ _ S
  | size =>
    simp [b_law_behind, b_law_behind_7, b_law_behind_6, b_law_behind_5, b_law_behind_4, b_law_behind_3, b_law_behind_2, Ins.e, vdk_law_behind_0, vdk_law_behind_1, vdk_law_behind_2]
    exact lb_fin s [.ints] [.int] h (by decide) _ _ _ _ _ _ _ _ S
  | say =>
    simp [b_law_behind, b_law_behind_7, b_law_behind_6, b_law_behind_5, b_law_behind_4, b_law_behind_3, b_law_behind_2, Ins.e, vdk_law_behind_0, vdk_law_behind_1, vdk_law_behind_2]
    exact lb_fin s [.int] [] h (by decide) _ _ _ _ _ _ _ _ S
  | trap =>
    simp [b_law_behind, b_law_behind_7, b_law_behind_6, b_law_behind_5, b_law_behind_4, b_law_behind_3, b_law_behind_2, Ins.e, vdk_law_behind_0, vdk_law_behind_1, vdk_law_behind_2]
    exact lb_fin s [] [] h (by decide) _ _ _ _ _ _ _ _ S
  | jump t =>
    simp [b_law_behind, b_law_behind_7, b_law_behind_6, b_law_behind_5, b_law_behind_4, b_law_behind_3, b_law_behind_2, Ins.e, vdk_law_behind_0, vdk_law_behind_1, vdk_law_behind_2]
    exact lb_fin s [] [] h (by decide) _ _ _ _ _ _ _ _ S
  | branch t =>
    simp [b_law_behind, b_law_behind_7, b_law_behind_6, b_law_behind_5, b_law_behind_4, b_law_behind_3, b_law_behind_2, Ins.e, vdk_law_behind_0, vdk_law_behind_1, vdk_law_behind_2]
    exact lb_fin s [.int] [] h (by decide) _ _ _ _ _ _ _ _ S
  | callF =>
    simp [b_law_behind, b_law_behind_7, b_law_behind_6, b_law_behind_5, b_law_behind_4, b_law_behind_3, b_law_behind_2, Ins.e, vdk_law_behind_0, vdk_law_behind_1, vdk_law_behind_2]
    exact lb_fin s [.int, .int] [.int] h (by decide) _ _ _ _ _ _ _ _ S
  | callP =>
    simp [b_law_behind, b_law_behind_7, b_law_behind_6, b_law_behind_5, b_law_behind_4, b_law_behind_3, b_law_behind_2, Ins.e, vdk_law_behind_0, vdk_law_behind_1, vdk_law_behind_2]
    exact lb_fin s [.int, .pair] [.pair] h (by decide) _ _ _ _ _ _ _ _ S
  | load i =>
    rw [show beh (.load i) s = changedT s [] [slotT i] from (changedT_nil _ _).symm]
    match i with
    | ⟨0, _⟩ =>
      simp [b_law_behind, b_law_behind_7, b_law_behind_6, b_law_behind_5, b_law_behind_4, b_law_behind_3, b_law_behind_2, Ins.e, vdk_law_behind_0, vdk_law_behind_1, vdk_law_behind_2]
      exact lb_fin s [] [.int] h (by decide) _ _ _ _ _ _ _ _ S
    | ⟨1, _⟩ =>
      simp [b_law_behind, b_law_behind_7, b_law_behind_6, b_law_behind_5, b_law_behind_4, b_law_behind_3, b_law_behind_2, Ins.e, vdk_law_behind_0, vdk_law_behind_1, vdk_law_behind_2]
      exact lb_fin s [] [.int] h (by decide) _ _ _ _ _ _ _ _ S
    | ⟨2, _⟩ =>
      simp [b_law_behind, b_law_behind_7, b_law_behind_6, b_law_behind_5, b_law_behind_4, b_law_behind_3, b_law_behind_2, Ins.e, vdk_law_behind_0, vdk_law_behind_1, vdk_law_behind_2]
      exact lb_fin s [] [.int] h (by decide) _ _ _ _ _ _ _ _ S
    | ⟨3, _⟩ =>
      simp [b_law_behind, b_law_behind_7, b_law_behind_6, b_law_behind_5, b_law_behind_4, b_law_behind_3, b_law_behind_2, Ins.e, vdk_law_behind_0, vdk_law_behind_1, vdk_law_behind_2]
      exact lb_fin s [] [.int] h (by decide) _ _ _ _ _ _ _ _ S
    | ⟨4, _⟩ =>
      simp [b_law_behind, b_law_behind_7, b_law_behind_6, b_law_behind_5, b_law_behind_4, b_law_behind_3, b_law_behind_2, Ins.e, vdk_law_behind_0, vdk_law_behind_1, vdk_law_behind_2]
      exact lb_fin s [] [.pair] h (by decide) _ _ _ _ _ _ _ _ S
    | ⟨5, _⟩ =>
      simp [b_law_behind, b_law_behind_7, b_law_behind_6, b_law_behind_5, b_law_behind_4, b_law_behind_3, b_law_behind_2, Ins.e, vdk_law_behind_0, vdk_law_behind_1, vdk_law_behind_2]
      exact lb_fin s [] [.int] h (by decide) _ _ _ _ _ _ _ _ S
  | store i =>
    rw [show beh (.store i) s = changedT s [slotT i] [] from (changedT_take _ _).symm]
    match i with
    | ⟨0, _⟩ =>
      simp [b_law_behind, b_law_behind_7, b_law_behind_6, b_law_behind_5, b_law_behind_4, b_law_behind_3, b_law_behind_2, Ins.e, vdk_law_behind_0, vdk_law_behind_1, vdk_law_behind_2]
      exact lb_fin s [.int] [] h (by decide) _ _ _ _ _ _ _ _ S
    | ⟨1, _⟩ =>
      simp [b_law_behind, b_law_behind_7, b_law_behind_6, b_law_behind_5, b_law_behind_4, b_law_behind_3, b_law_behind_2, Ins.e, vdk_law_behind_0, vdk_law_behind_1, vdk_law_behind_2]
      exact lb_fin s [.int] [] h (by decide) _ _ _ _ _ _ _ _ S
    | ⟨2, _⟩ =>
      simp [b_law_behind, b_law_behind_7, b_law_behind_6, b_law_behind_5, b_law_behind_4, b_law_behind_3, b_law_behind_2, Ins.e, vdk_law_behind_0, vdk_law_behind_1, vdk_law_behind_2]
      exact lb_fin s [.int] [] h (by decide) _ _ _ _ _ _ _ _ S
    | ⟨3, _⟩ =>
      simp [b_law_behind, b_law_behind_7, b_law_behind_6, b_law_behind_5, b_law_behind_4, b_law_behind_3, b_law_behind_2, Ins.e, vdk_law_behind_0, vdk_law_behind_1, vdk_law_behind_2]
      exact lb_fin s [.int] [] h (by decide) _ _ _ _ _ _ _ _ S
    | ⟨4, _⟩ =>
      simp [b_law_behind, b_law_behind_7, b_law_behind_6, b_law_behind_5, b_law_behind_4, b_law_behind_3, b_law_behind_2, Ins.e, vdk_law_behind_0, vdk_law_behind_1, vdk_law_behind_2]
      exact lb_fin s [.pair] [] h (by decide) _ _ _ _ _ _ _ _ S
    | ⟨5, _⟩ =>
      simp [b_law_behind, b_law_behind_7, b_law_behind_6, b_law_behind_5, b_law_behind_4, b_law_behind_3, b_law_behind_2, Ins.e, vdk_law_behind_0, vdk_law_behind_1, vdk_law_behind_2]
      exact lb_fin s [.int] [] h (by decide) _ _ _ _ _ _ _ _ S
  | new =>
    rw [show beh .new s = changedT s [] [.pair] from (changedT_nil _ _).symm]
    simp [b_law_behind, b_law_behind_7, b_law_behind_6, b_law_behind_5, b_law_behind_4, b_law_behind_3, b_law_behind_2, Ins.e, vdk_law_behind_0, vdk_law_behind_1, vdk_law_behind_2]
    exact lb_fin s [] [.pair] h (by decide) _ _ _ _ _ _ _ _ S
  | nilP =>
    rw [show beh .nilP s = changedT s [] [.pair] from (changedT_nil _ _).symm]
    simp [b_law_behind, b_law_behind_7, b_law_behind_6, b_law_behind_5, b_law_behind_4, b_law_behind_3, b_law_behind_2, Ins.e, vdk_law_behind_0, vdk_law_behind_1, vdk_law_behind_2]
    exact lb_fin s [] [.pair] h (by decide) _ _ _ _ _ _ _ _ S
  | nilI =>
    rw [show beh .nilI s = changedT s [] [.ints] from (changedT_nil _ _).symm]
    simp [b_law_behind, b_law_behind_7, b_law_behind_6, b_law_behind_5, b_law_behind_4, b_law_behind_3, b_law_behind_2, Ins.e, vdk_law_behind_0, vdk_law_behind_1, vdk_law_behind_2]
    exact lb_fin s [] [.ints] h (by decide) _ _ _ _ _ _ _ _ S
  | newN =>
    simp [b_law_behind, b_law_behind_7, b_law_behind_6, b_law_behind_5, b_law_behind_4, b_law_behind_3, b_law_behind_2, Ins.e, vdk_law_behind_0, vdk_law_behind_1, vdk_law_behind_2]
    rfl
  | get f =>
    match f with
    | ⟨0, _⟩ =>
      simp [b_law_behind, b_law_behind_7, b_law_behind_6, b_law_behind_5, b_law_behind_4, b_law_behind_3, b_law_behind_2, Ins.e, vdk_law_behind_0, vdk_law_behind_1, vdk_law_behind_2]
      exact lb_fin s [.pair] [.int] h (by decide) _ _ _ _ _ _ _ _ S
    | ⟨1, _⟩ =>
      simp [b_law_behind, b_law_behind_7, b_law_behind_6, b_law_behind_5, b_law_behind_4, b_law_behind_3, b_law_behind_2, Ins.e, vdk_law_behind_0, vdk_law_behind_1, vdk_law_behind_2]
      exact lb_fin s [.pair] [.pair] h (by decide) _ _ _ _ _ _ _ _ S
    | ⟨2, _⟩ =>
      simp [b_law_behind, b_law_behind_7, b_law_behind_6, b_law_behind_5, b_law_behind_4, b_law_behind_3, b_law_behind_2, Ins.e, vdk_law_behind_0, vdk_law_behind_1, vdk_law_behind_2]
      rfl
  | set f =>
    match f with
    | ⟨0, _⟩ =>
      simp [b_law_behind, b_law_behind_7, b_law_behind_6, b_law_behind_5, b_law_behind_4, b_law_behind_3, b_law_behind_2, Ins.e, vdk_law_behind_0, vdk_law_behind_1, vdk_law_behind_2]
      exact lb_fin s [.pair, .int] [] h (by decide) _ _ _ _ _ _ _ _ S
    | ⟨1, _⟩ =>
      simp [b_law_behind, b_law_behind_7, b_law_behind_6, b_law_behind_5, b_law_behind_4, b_law_behind_3, b_law_behind_2, Ins.e, vdk_law_behind_0, vdk_law_behind_1, vdk_law_behind_2]
      exact lb_fin s [.pair, .pair] [] h (by decide) _ _ _ _ _ _ _ _ S
    | ⟨2, _⟩ =>
      simp [b_law_behind, b_law_behind_7, b_law_behind_6, b_law_behind_5, b_law_behind_4, b_law_behind_3, b_law_behind_2, Ins.e, vdk_law_behind_0, vdk_law_behind_1, vdk_law_behind_2]
      rfl
  | ret =>
    have e : opEq (.lst (tys s)) (.lst [.str "int"]) [] = .ok (.bl (decide (s = [.int]))) [] := opEq_lst s [.int] []
    by_cases hs : s = [.int]
    · rw [decide_eq_true hs] at e
      simp [b_law_behind, b_law_behind_7, b_law_behind_6, b_law_behind_5, b_law_behind_4, b_law_behind_3, b_law_behind_2, Ins.e, vdk_law_behind_0, vdk_law_behind_1, vdk_law_behind_2]
      rw [e]
      subst hs
      rfl
    · rw [decide_eq_false hs] at e
      simp [b_law_behind, b_law_behind_7, b_law_behind_6, b_law_behind_5, b_law_behind_4, b_law_behind_3, b_law_behind_2, Ins.e, vdk_law_behind_0, vdk_law_behind_1, vdk_law_behind_2]
      rw [e]
      have : beh .ret s = none := if_neg hs
      rw [this]
      rfl
  | drop =>
    rcases snoc_cases s with rfl | ⟨r, x, rfl⟩
    · simp [b_law_behind, b_law_behind_7, b_law_behind_6, b_law_behind_5, b_law_behind_4, b_law_behind_3, b_law_behind_2, Ins.e, vdk_law_behind_0, vdk_law_behind_1, vdk_law_behind_2]
      rfl
    · have h0 : ¬ ((r.length : Int) + 1 = 0) := by omega
      rw [show beh .drop (r ++ [x]) = changedT (r ++ [x]) [x] [] by rw [changedT_snoc]; simp [beh]]
      simp [b_law_behind, b_law_behind_7, b_law_behind_6, b_law_behind_5, b_law_behind_4, b_law_behind_3, b_law_behind_2, Ins.e, vdk_law_behind_0, vdk_law_behind_1, vdk_law_behind_2, h0]
      exact lb_fin (r ++ [x]) [x] [] h (by decide) _ _ _ _ _ _ _ _ S
  | dup =>
    rcases snoc_cases s with rfl | ⟨r, x, rfl⟩
    · simp [b_law_behind, b_law_behind_7, b_law_behind_6, b_law_behind_5, b_law_behind_4, b_law_behind_3, b_law_behind_2, Ins.e, vdk_law_behind_0, vdk_law_behind_1, vdk_law_behind_2]
      rfl
    · have h0 : ¬ ((r.length : Int) + 1 = 0) := by omega
      rw [show beh .dup (r ++ [x]) = changedT (r ++ [x]) [x] [x, x] by rw [changedT_snoc]; simp [beh]]
      simp [b_law_behind, b_law_behind_7, b_law_behind_6, b_law_behind_5, b_law_behind_4, b_law_behind_3, b_law_behind_2, Ins.e, vdk_law_behind_0, vdk_law_behind_1, vdk_law_behind_2, h0, opAdd_lst]
      exact lb_fin (r ++ [x]) [x] [x, x] h (by simp) _ _ _ _ _ _ _ _ S
  | isnil =>
    rcases snoc_cases s with rfl | ⟨r, x, rfl⟩
    · simp [b_law_behind, b_law_behind_7, b_law_behind_6, b_law_behind_5, b_law_behind_4, b_law_behind_3, b_law_behind_2, Ins.e, vdk_law_behind_0, vdk_law_behind_1, vdk_law_behind_2]
      rfl
    · have h0 : ¬ ((r.length : Int) + 1 = 0) := by omega
      have h1 : (x.s = Str.ofString "int") = (x = .int) := propext ⟨fun e => Ty.inj (b := .int) e, fun e => by rw [e]; rfl⟩
      by_cases hx : x = .int
      · subst hx
        simp [b_law_behind, b_law_behind_7, b_law_behind_6, b_law_behind_5, b_law_behind_4, b_law_behind_3, b_law_behind_2, Ins.e, vdk_law_behind_0, vdk_law_behind_1, vdk_law_behind_2, h0, ix_lastL, Ty.a, h1, beh, encO]
      · rw [show beh .isnil (r ++ [x]) = changedT (r ++ [x]) [x] [.int] by rw [changedT_snoc]; simp [beh, hx]]
        simp [b_law_behind, b_law_behind_7, b_law_behind_6, b_law_behind_5, b_law_behind_4, b_law_behind_3, b_law_behind_2, Ins.e, vdk_law_behind_0, vdk_law_behind_1, vdk_law_behind_2, h0, ix_lastL, Ty.a, h1, hx]
        exact lb_fin (r ++ [x]) [x] [.int] h (by decide) _ _ _ _ _ _ _ _ S
  | alike =>
    rcases snoc_cases s with rfl | ⟨r, x, rfl⟩
    · simp [b_law_behind, b_law_behind_7, b_law_behind_6, b_law_behind_5, b_law_behind_4, b_law_behind_3, b_law_behind_2, Ins.e, vdk_law_behind_0, vdk_law_behind_1, vdk_law_behind_2]
      rfl
    · rcases snoc_cases r with rfl | ⟨r, y, rfl⟩
      · simp [b_law_behind, b_law_behind_7, b_law_behind_6, b_law_behind_5, b_law_behind_4, b_law_behind_3, b_law_behind_2, Ins.e, vdk_law_behind_0, vdk_law_behind_1, vdk_law_behind_2]
        rfl
      · have h0 : ¬ ((r.length : Int) + 2 < 2) := by omega
        have h1 : (x.s = Str.ofString "int") = (x = .int) := propext ⟨fun e => Ty.inj (b := .int) e, fun e => by rw [e]; rfl⟩
        have h2 : (x.s = y.s) = (x = y) := propext ⟨Ty.inj, fun e => by rw [e]⟩
        have e1 := ix_lastL (r ++ [y]) x
        have e2 := ix_last2L r y x
        simp only [List.append_assoc, List.cons_append, List.nil_append] at h e1 ⊢
        by_cases hx : x = .int
        · subst hx
          simp [b_law_behind, b_law_behind_7, b_law_behind_6, b_law_behind_5, b_law_behind_4, b_law_behind_3, b_law_behind_2, Ins.e, vdk_law_behind_0, vdk_law_behind_1, vdk_law_behind_2, h0, e1, e2, Ty.a, h1, h2, beh, encO]
        · by_cases hy : x = y
          · subst hy
            rw [show beh .alike (r ++ [x, x]) = changedT (r ++ [x, x]) [x, x] [.int] by rw [changedT_snoc]; simp [beh, hx]]
            simp [b_law_behind, b_law_behind_7, b_law_behind_6, b_law_behind_5, b_law_behind_4, b_law_behind_3, b_law_behind_2, Ins.e, vdk_law_behind_0, vdk_law_behind_1, vdk_law_behind_2, h0, e1, e2, Ty.a, h1, h2, hx]
            exact lb_fin (r ++ [x, x]) [x, x] [.int] h (by decide) _ _ _ _ _ _ _ _ S
          · simp [b_law_behind, b_law_behind_7, b_law_behind_6, b_law_behind_5, b_law_behind_4, b_law_behind_3, b_law_behind_2, Ins.e, vdk_law_behind_0, vdk_law_behind_1, vdk_law_behind_2, h0, e1, e2, Ty.a, h1, h2, hx, hy, beh, encO]
end K02
end
section
set_option Elab.async false
set_option linter.all false
set_option maxRecDepth 100000
set_option maxHeartbeats 4000000
set_option autoImplicit false
/-! k02: the program's steps. -/
namespace K02
open PySem PySem.Spec PyProof.Rows L2 VM
@[simp] theorem closed_encO (o : Option (List Ty)) : closed (encO o) = true := by cases o <;> simp [encO]
theorem record_pair (c : List Ins) (S : Store) : m_record_of [partA c, .str "lib.pair"] S = .ok pairF S := by
  unfold m_record_of
  rw [pureF_ap _ _ (by simp)]
  kernel_rfl
theorem record_none (c : List Ins) (S : Store) : m_record_of [partA c, .str "lib.none"] S = .ok .non S := by
  unfold m_record_of
  rw [pureF_ap _ _ (by simp)]
  kernel_rfl
theorem record_ints (c : List Ins) (S : Store) : m_record_of [partA c, .str "ints"] S = .ok .non S := by
  unfold m_record_of
  rw [pureF_ap _ _ (by simp)]
  kernel_rfl
theorem own_go (c : List Ins) (S : Store) : m_own [partA c, .str "go"] S = .ok (.str "main.go") S := by
  unfold m_own
  rw [pureF_ap _ _ (by simp)]
  kernel_rfl
theorem sig_f (c : List Ins) (S : Store) : m_signature [partA c, .str "lib.f"] S = .ok (.tup [.tup [.str "int", .str "int"], .str "int"]) S := by
  unfold m_signature
  rw [pureF_ap _ _ (by simp)]
  have h := own_go c []
  unfold partA at h ⊢
  simp [b_signature, b_signature_0, b_signature_1, b_signature_2, b_signature_3, usesA, pairF, fnA] at h ⊢
  simp [h, pu_ok]
theorem sig_p (c : List Ins) (S : Store) : m_signature [partA c, .str "lib.pair2"] S = .ok (.tup [pairF, .str "lib.pair"]) S := by
  unfold m_signature
  rw [pureF_ap _ _ (by simp)]
  have h := own_go c []
  unfold partA at h ⊢
  simp [b_signature, b_signature_0, b_signature_1, b_signature_2, b_signature_3, usesA, pairF, fnA] at h ⊢
  simp [h, pu_ok]
def slotsA : A := .tup (tys [.int, .int, .int, .int, .pair, .int])
theorem slots_ok (c : List Ins) (S : Store) : m_slots_of [fnA c] S = .ok slotsA S := by
  unfold m_slots_of
  rw [pureF_ap _ _ (by simp)]
  kernel_rfl
theorem slot_ok (c : List Ins) (w : Str) (i : Fin 6) (s : List Ty) (S : Store) (h : s.length ≤ 1000) :
    m_with_slot [fnA c, .str w, .int i.val, .tup (tys s)] S = .ok (encO (if w = "load" then some (s ++ [slotT i]) else takenT s [slotT i])) S := by
  unfold m_with_slot
  rw [pureF_ap _ _ (by simp)]
  have e1 : opLen [slotsA] [] = .ok (.int 6) [] := rfl
  have e2 : opIx slotsA (.int i.val) [] = .ok (slotT i).a [] := by
    refine opIx_tup ?_
    rw [VM.atI_nat]
    match i with
    | ⟨0, _⟩ | ⟨1, _⟩ | ⟨2, _⟩ | ⟨3, _⟩ | ⟨4, _⟩ | ⟨5, _⟩ => rfl
  have e3 : ¬ ((6 : Int) ≤ (i.val : Int)) := by have := i.isLt; omega
  have e4 : m_taken [A.tup (tys s), A.tup [(slotT i).a]] [] = _ := taken_ok s [slotT i] []
  have hz : s.length + 1 ≤ 16777216 := by omega
  by_cases hw : w = "load"
  · simp [b_with_slot, b_with_slot_0, b_with_slot_1, slots_ok, e1, e2, e3, hw, opAdd_tup, hz]
    rw [show tys s ++ [(slotT i).a] = tys (s ++ [slotT i]) from tys_app s [slotT i]]
    exact pu_ok (by simp)
  · simp [b_with_slot, b_with_slot_0, b_with_slot_1, slots_ok, e1, e2, e3, hw, e4]
    exact pu_ok (closed_encO _)
theorem changed_e {T L : A} (t l : List Ty) (hT : T = .tup (tys t)) (hL : L = .tup (tys l)) (s : List Ty) (S : Store) (h : s.length ≤ 1000) (hl : l.length ≤ 1000) :
    m_changed [.tup (tys s), T, L] S = .ok (encO (changedT s t l)) S := by rw [hT, hL]; exact changed_ok s t l S h hl
theorem call_f (c : List Ins) (s : List Ty) (S : Store) (h : s.length ≤ 1000) : m_with_call [partA c, .str "lib.f", .tup (tys s)] S = .ok (encO (changedT s [.int, .int] [.int])) S := by
  unfold m_with_call
  rw [pureF_ap _ _ (by simp)]
  have e := changed_e (T := .tup [.str "int", .str "int"]) (L := .tup [.str "int"]) [.int, .int] [.int] rfl rfl s [] h (by decide)
  simp [b_with_call, b_with_call_0, b_with_call_1, sig_f, k_NO_RESULT, e, pu_ok, closed_encO]
theorem call_p (c : List Ins) (s : List Ty) (S : Store) (h : s.length ≤ 1000) : m_with_call [partA c, .str "lib.pair2", .tup (tys s)] S = .ok (encO (changedT s [.int, .pair] [.pair])) S := by
  unfold m_with_call
  rw [pureF_ap _ _ (by simp)]
  have e := changed_e (T := pairF) (L := .tup [.str "lib.pair"]) [.int, .pair] [.pair] rfl rfl s [] h (by decide)
  simp [b_with_call, b_with_call_0, b_with_call_1, sig_p, k_NO_RESULT, e, pu_ok, closed_encO]
theorem tys_p (s : List Ty) : tys s ++ [A.str "lib.pair"] = tys (s ++ [.pair]) := tys_app s [.pair]
theorem tys_i (s : List Ty) : tys s ++ [A.str "ints"] = tys (s ++ [.ints]) := tys_app s [.ints]
theorem tys_n (s : List Ty) : tys s ++ [A.str "int"] = tys (s ++ [.int]) := tys_app s [.int]
theorem thing_ok (c : List Ins) (i : Ins) (hi : i = .new ∨ i = .newN ∨ i = .nilP ∨ i = .nilI ∨ (∃ f, i = .get f) ∨ ∃ f, i = .set f) (s : List Ty) (S : Store) (h : s.length ≤ 1000) :
    m_with_thing [partA c, i.e, .tup (tys s)] S = .ok (encO (beh i s)) S := by
  unfold m_with_thing
  rw [pureF_ap _ _ (by simp [closed_ins])]
  have hz : s.length + 1 ≤ 16777216 := by omega
  have c1 := changed_e (T := .tup [.str "lib.pair"]) (L := .tup [.str "int"]) [.pair] [.int] rfl rfl s [] h (by decide)
  have c2 := changed_e (T := .tup [.str "lib.pair"]) (L := .tup [.str "lib.pair"]) [.pair] [.pair] rfl rfl s [] h (by decide)
  have c3 := changed_e (T := .tup [.str "lib.pair", .str "int"]) (L := .tup []) [.pair, .int] [] rfl rfl s [] h (by decide)
  have c4 := changed_e (T := .tup [.str "lib.pair", .str "lib.pair"]) (L := .tup []) [.pair, .pair] [] rfl rfl s [] h (by decide)
  rcases hi with rfl | rfl | rfl | rfl | ⟨f, rfl⟩ | ⟨f, rfl⟩
  · simp [b_with_thing, b_with_thing_0, b_with_thing_1, b_with_thing_2, b_with_thing_3, b_with_thing_4, b_with_thing_5, b_with_thing_6, Ins.e, record_pair, pairF, k_INTS, opAdd_tup, hz, tys_p, pu_ok, beh, encO]
  · simp [b_with_thing, b_with_thing_0, b_with_thing_1, b_with_thing_2, b_with_thing_3, b_with_thing_4, b_with_thing_5, b_with_thing_6, Ins.e, record_none, pairF, k_INTS, opAdd_tup, hz, tys_p, pu_ok, beh, encO]
  · simp [b_with_thing, b_with_thing_0, b_with_thing_1, b_with_thing_2, b_with_thing_3, b_with_thing_4, b_with_thing_5, b_with_thing_6, Ins.e, record_pair, pairF, k_INTS, opAdd_tup, hz, tys_p, pu_ok, beh, encO]
  · simp [b_with_thing, b_with_thing_0, b_with_thing_1, b_with_thing_2, b_with_thing_3, b_with_thing_4, b_with_thing_5, b_with_thing_6, Ins.e, record_ints, pairF, k_INTS, opAdd_tup, hz, tys_i, pu_ok, beh, encO]
  · match f with
    | ⟨0, _⟩ =>
      simp [b_with_thing, b_with_thing_0, b_with_thing_1, b_with_thing_2, b_with_thing_3, b_with_thing_4, b_with_thing_5, b_with_thing_6, Ins.e, record_pair, pairF, k_INTS, c1, pu_ok, beh]
    | ⟨1, _⟩ =>
      simp [b_with_thing, b_with_thing_0, b_with_thing_1, b_with_thing_2, b_with_thing_3, b_with_thing_4, b_with_thing_5, b_with_thing_6, Ins.e, record_pair, pairF, k_INTS, c2, pu_ok, beh]
    | ⟨2, _⟩ =>
      simp [b_with_thing, b_with_thing_0, b_with_thing_1, b_with_thing_2, b_with_thing_3, b_with_thing_4, b_with_thing_5, b_with_thing_6, Ins.e, record_pair, pairF, k_INTS, c2, pu_ok, beh, encO]
  · match f with
    | ⟨0, _⟩ =>
      simp [b_with_thing, b_with_thing_0, b_with_thing_1, b_with_thing_2, b_with_thing_3, b_with_thing_4, b_with_thing_5, b_with_thing_6, Ins.e, record_pair, pairF, k_INTS, c3, pu_ok, beh]
    | ⟨1, _⟩ =>
      simp [b_with_thing, b_with_thing_0, b_with_thing_1, b_with_thing_2, b_with_thing_3, b_with_thing_4, b_with_thing_5, b_with_thing_6, Ins.e, record_pair, pairF, k_INTS, c4, pu_ok, beh]
    | ⟨2, _⟩ =>
      simp [b_with_thing, b_with_thing_0, b_with_thing_1, b_with_thing_2, b_with_thing_3, b_with_thing_4, b_with_thing_5, b_with_thing_6, Ins.e, record_pair, pairF, k_INTS, c2, pu_ok, beh, encO]
end K02
end
section
set_option Elab.async false
set_option linter.all false
set_option maxRecDepth 100000
set_option maxHeartbeats 4000000
set_option autoImplicit false
/-! k02: the program's steps. -/
namespace K02
open PySem PySem.Spec PyProof.Rows L2 VM
theorem top_ok (i : Ins) (w : Str) (hi : (i = .drop ∧ w = "drop") ∨ (i = .dup ∧ w = "dup") ∨ (i = .isnil ∧ w = "isnil") ∨ (i = .alike ∧ w = "alike")) (s : List Ty) (S : Store) (h : s.length ≤ 1000) :
    m_with_top [.str w, .tup (tys s)] S = .ok (encO (beh i s)) S := by
  unfold m_with_top
  rw [pureF_ap _ _ (by simp)]
  rcases snoc_cases s with rfl | ⟨r, x, rfl⟩
  · rcases hi with ⟨rfl, rfl⟩ | ⟨rfl, rfl⟩ | ⟨rfl, rfl⟩ | ⟨rfl, rfl⟩ <;> kernel_rfl
  · have h0 : (0 : Int) < (r.length : Int) + 1 := by omega
    have hx : (x.s = Str.ofString "int") = (x = .int) := propext ⟨fun e => Ty.inj (b := .int) e, fun e => by rw [e]; rfl⟩
    have hz : r.length + 1 ≤ 999 + 1 := by simpa using h
    have hz1 : r.length + 1 ≤ 16777216 := by omega
    have hz2 : r.length + 1 + 1 ≤ 16777216 := by omega
    rcases hi with ⟨rfl, rfl⟩ | ⟨rfl, rfl⟩ | ⟨rfl, rfl⟩ | ⟨rfl, rfl⟩
    · simp [b_with_top, b_with_top_0, b_with_top_1, b_with_top_2, b_with_top_3, h0, pu_ok, beh, encO]
    · simp [b_with_top, b_with_top_0, b_with_top_1, b_with_top_2, b_with_top_3, h0, ix_last, opAdd_tup, hz2]
      rw [show tys (r ++ [x]) ++ [x.a] = tys (r ++ [x] ++ [x]) from tys_app _ [x]]
      rw [pu_ok (by simp)]
      simp [beh, encO]
    · by_cases e : x = .int
      · subst e
        simp [b_with_top, b_with_top_0, b_with_top_1, b_with_top_2, b_with_top_3, h0, ix_last, k_INT, Ty.a, hx, beh, encO]
      · simp [b_with_top, b_with_top_0, b_with_top_1, b_with_top_2, b_with_top_3, h0, ix_last, k_INT, Ty.a, hx, e, beh, encO, opAdd_tup, hz1, tys_n, pu_ok]
    · rcases snoc_cases r with rfl | ⟨r, y, rfl⟩
      · simp [b_with_top, b_with_top_0, b_with_top_1, b_with_top_2, b_with_top_3, beh, encO]
      · have h3 : ¬ ((r.length : Int) + 2 < 2) := by omega
        have hy : (x.s = y.s) = (x = y) := propext ⟨Ty.inj, fun e => by rw [e]⟩
        have e1 := ix_last (r ++ [y]) x
        have e2 := ix_last2 r y x
        have hz3 : r.length + 1 ≤ 16777216 := by simp at hz; omega
        simp only [List.append_assoc, List.cons_append, List.nil_append] at e1 ⊢
        by_cases e : x = .int
        · subst e
          simp [b_with_top, b_with_top_0, b_with_top_1, b_with_top_2, b_with_top_3, h3, e1, e2, k_INT, Ty.a, hx, beh, encO]
        · by_cases f : x = y
          · subst f
            simp [b_with_top, b_with_top_0, b_with_top_1, b_with_top_2, b_with_top_3, h3, e1, e2, k_INT, Ty.a, hx, e, beh, encO, opAdd_tup, hz3, tys_n, pu_ok]
          · simp [b_with_top, b_with_top_0, b_with_top_1, b_with_top_2, b_with_top_3, h3, e1, e2, k_INT, Ty.a, hx, hy, e, f, beh, encO]
theorem stack_behind_ok (c : List Ins) (i : Ins) (s : List Ty) (S : Store) (h : s.length ≤ 1000) : m_stack_behind [partA c, fnA c, i.e, .tup (tys s)] S = .ok (encO (beh i s)) S := by
  unfold m_stack_behind
  rw [pureF_ap _ _ (by simp [closed_ins])]
  cases i with
  | push w =>
    have e := changed_e (T := .tup []) (L := .tup [.str "int"]) [] [.int] rfl rfl s [] h (by decide)
    simp [b_stack_behind, b_stack_behind_0, b_stack_behind_1, b_stack_behind_2, b_stack_behind_3, b_stack_behind_4, b_stack_behind_5, b_stack_behind_6, Ins.e, k_SUMS, k_INT, t_FIXED, e]
    exact pu_ok (closed_encO _)
  | add =>
    have e := changed_e (T := .tup [.str "int", .str "int"]) (L := .tup [.str "int"]) [.int, .int] [.int] rfl rfl s [] h (by decide)
    simp [b_stack_behind, b_stack_behind_0, b_stack_behind_1, b_stack_behind_2, b_stack_behind_3, b_stack_behind_4, b_stack_behind_5, b_stack_behind_6, Ins.e, k_SUMS, k_INT, t_FIXED, e]
    exact pu_ok (closed_encO _)
  | sub =>
    have e := changed_e (T := .tup [.str "int", .str "int"]) (L := .tup [.str "int"]) [.int, .int] [.int] rfl rfl s [] h (by decide)
    simp [b_stack_behind, b_stack_behind_0, b_stack_behind_1, b_stack_behind_2, b_stack_behind_3, b_stack_behind_4, b_stack_behind_5, b_stack_behind_6, Ins.e, k_SUMS, k_INT, t_FIXED, e]
    exact pu_ok (closed_encO _)
  | mul =>
    have e := changed_e (T := .tup [.str "int", .str "int"]) (L := .tup [.str "int"]) [.int, .int] [.int] rfl rfl s [] h (by decide)
    simp [b_stack_behind, b_stack_behind_0, b_stack_behind_1, b_stack_behind_2, b_stack_behind_3, b_stack_behind_4, b_stack_behind_5, b_stack_behind_6, Ins.e, k_SUMS, k_INT, t_FIXED, e]
    exact pu_ok (closed_encO _)
  | div =>
    have e := changed_e (T := .tup [.str "int", .str "int"]) (L := .tup [.str "int"]) [.int, .int] [.int] rfl rfl s [] h (by decide)
    simp [b_stack_behind, b_stack_behind_0, b_stack_behind_1, b_stack_behind_2, b_stack_behind_3, b_stack_behind_4, b_stack_behind_5, b_stack_behind_6, Ins.e, k_SUMS, k_INT, t_FIXED, e]
    exact pu_ok (closed_encO _)
  | less =>
    have e := changed_e (T := .tup [.str "int", .str "int"]) (L := .tup [.str "int"]) [.int, .int] [.int] rfl rfl s [] h (by decide)
    simp [b_stack_behind, b_stack_behind_0, b_stack_behind_1, b_stack_behind_2, b_stack_behind_3, b_stack_behind_4, b_stack_behind_5, b_stack_behind_6, Ins.e, k_SUMS, k_INT, t_FIXED, e]
    exact pu_ok (closed_encO _)
  | same =>
    have e := changed_e (T := .tup [.str "int", .str "int"]) (L := .tup [.str "int"]) [.int, .int] [.int] rfl rfl s [] h (by decide)
    simp [b_stack_behind, b_stack_behind_0, b_stack_behind_1, b_stack_behind_2, b_stack_behind_3, b_stack_behind_4, b_stack_behind_5, b_stack_behind_6, Ins.e, k_SUMS, k_INT, t_FIXED, e]
    exact pu_ok (closed_encO _)
  | row =>
    have e := changed_e (T := .tup [.str "int"]) (L := .tup [.str "ints"]) [.int] [.ints] rfl rfl s [] h (by decide)
    simp [b_stack_behind, b_stack_behind_0, b_stack_behind_1, b_stack_behind_2, b_stack_behind_3, b_stack_behind_4, b_stack_behind_5, b_stack_behind_6, Ins.e, k_SUMS, k_INT, t_FIXED, e]
    exact pu_ok (closed_encO _)
  | at_ =>
    have e := changed_e (T := .tup [.str "ints", .str "int"]) (L := .tup [.str "int"]) [.ints, .int] [.int] rfl rfl s [] h (by decide)
    simp [b_stack_behind, b_stack_behind_0, b_stack_behind_1, b_stack_behind_2, b_stack_behind_3, b_stack_behind_4, b_stack_behind_5, b_stack_behind_6, Ins.e, k_SUMS, k_INT, t_FIXED, e]
    exact pu_ok (closed_encO _)
  | put =>
    have e := changed_e (T := .tup [.str "ints", .str "int", .str "int"]) (L := .tup []) [.ints, .int, .int] [] rfl rfl s [] h (by decide)
    simp [b_stack_behind, b_stack_behind_0, b_stack_behind_1, b_stack_behind_2, b_stack_behind_3, b_stack_behind_4, b_stack_behind_5, b_stack_behind_6, Ins.e, k_SUMS, k_INT, t_FIXED, e]
    exact pu_ok (closed_encO _)
  | size =>
    have e := changed_e (T := .tup [.str "ints"]) (L := .tup [.str "int"]) [.ints] [.int] rfl rfl s [] h (by decide)
    simp [b_stack_behind, b_stack_behind_0, b_stack_behind_1, b_stack_behind_2, b_stack_behind_3, b_stack_behind_4, b_stack_behind_5, b_stack_behind_6, Ins.e, k_SUMS, k_INT, t_FIXED, e]
    exact pu_ok (closed_encO _)
  | say =>
    have e := changed_e (T := .tup [.str "int"]) (L := .tup []) [.int] [] rfl rfl s [] h (by decide)
    simp [b_stack_behind, b_stack_behind_0, b_stack_behind_1, b_stack_behind_2, b_stack_behind_3, b_stack_behind_4, b_stack_behind_5, b_stack_behind_6, Ins.e, k_SUMS, k_INT, t_FIXED, e]
    exact pu_ok (closed_encO _)
  | trap =>
    have e := changed_e (T := .tup []) (L := .tup []) [] [] rfl rfl s [] h (by decide)
    simp [b_stack_behind, b_stack_behind_0, b_stack_behind_1, b_stack_behind_2, b_stack_behind_3, b_stack_behind_4, b_stack_behind_5, b_stack_behind_6, Ins.e, k_SUMS, k_INT, t_FIXED, e]
    exact pu_ok (closed_encO _)
  | jump t =>
    have e := changed_e (T := .tup []) (L := .tup []) [] [] rfl rfl s [] h (by decide)
    simp [b_stack_behind, b_stack_behind_0, b_stack_behind_1, b_stack_behind_2, b_stack_behind_3, b_stack_behind_4, b_stack_behind_5, b_stack_behind_6, Ins.e, k_SUMS, k_INT, t_FIXED, e]
    exact pu_ok (closed_encO _)
  | branch t =>
    have e := changed_e (T := .tup [.str "int"]) (L := .tup []) [.int] [] rfl rfl s [] h (by decide)
    simp [b_stack_behind, b_stack_behind_0, b_stack_behind_1, b_stack_behind_2, b_stack_behind_3, b_stack_behind_4, b_stack_behind_5, b_stack_behind_6, Ins.e, k_SUMS, k_INT, t_FIXED, e]
    exact pu_ok (closed_encO _)
  | load i =>
    have e := slot_ok c "load" i s [] h
    simp [b_stack_behind, b_stack_behind_0, b_stack_behind_1, b_stack_behind_2, b_stack_behind_3, b_stack_behind_4, b_stack_behind_5, b_stack_behind_6, Ins.e, k_SUMS, k_INT, t_FIXED, e]
    exact pu_ok (closed_encO _)
  | store i =>
    have e := slot_ok c "store" i s [] h
    simp [b_stack_behind, b_stack_behind_0, b_stack_behind_1, b_stack_behind_2, b_stack_behind_3, b_stack_behind_4, b_stack_behind_5, b_stack_behind_6, Ins.e, k_SUMS, k_INT, t_FIXED, e]
    exact pu_ok (closed_encO _)
  | new =>
    have e := thing_ok c (.new) (.inl rfl) s [] h
    simp only [Ins.e] at e
    simp [b_stack_behind, b_stack_behind_0, b_stack_behind_1, b_stack_behind_2, b_stack_behind_3, b_stack_behind_4, b_stack_behind_5, b_stack_behind_6, Ins.e, k_SUMS, k_INT, t_FIXED, e]
    exact pu_ok (closed_encO _)
  | newN =>
    have e := thing_ok c (.newN) (.inr (.inl rfl)) s [] h
    simp only [Ins.e] at e
    simp [b_stack_behind, b_stack_behind_0, b_stack_behind_1, b_stack_behind_2, b_stack_behind_3, b_stack_behind_4, b_stack_behind_5, b_stack_behind_6, Ins.e, k_SUMS, k_INT, t_FIXED, e]
    exact pu_ok (closed_encO _)
  | nilP =>
    have e := thing_ok c (.nilP) (.inr (.inr (.inl rfl))) s [] h
    simp only [Ins.e] at e
    simp [b_stack_behind, b_stack_behind_0, b_stack_behind_1, b_stack_behind_2, b_stack_behind_3, b_stack_behind_4, b_stack_behind_5, b_stack_behind_6, Ins.e, k_SUMS, k_INT, t_FIXED, e]
    exact pu_ok (closed_encO _)
  | nilI =>
    have e := thing_ok c (.nilI) (.inr (.inr (.inr (.inl rfl)))) s [] h
    simp only [Ins.e] at e
    simp [b_stack_behind, b_stack_behind_0, b_stack_behind_1, b_stack_behind_2, b_stack_behind_3, b_stack_behind_4, b_stack_behind_5, b_stack_behind_6, Ins.e, k_SUMS, k_INT, t_FIXED, e]
    exact pu_ok (closed_encO _)
  | get f =>
    have e := thing_ok c (.get f) (.inr (.inr (.inr (.inr (.inl ⟨f, rfl⟩))))) s [] h
    simp only [Ins.e] at e
    simp [b_stack_behind, b_stack_behind_0, b_stack_behind_1, b_stack_behind_2, b_stack_behind_3, b_stack_behind_4, b_stack_behind_5, b_stack_behind_6, Ins.e, k_SUMS, k_INT, t_FIXED, e]
    exact pu_ok (closed_encO _)
  | set f =>
    have e := thing_ok c (.set f) (.inr (.inr (.inr (.inr (.inr ⟨f, rfl⟩))))) s [] h
    simp only [Ins.e] at e
    simp [b_stack_behind, b_stack_behind_0, b_stack_behind_1, b_stack_behind_2, b_stack_behind_3, b_stack_behind_4, b_stack_behind_5, b_stack_behind_6, Ins.e, k_SUMS, k_INT, t_FIXED, e]
    exact pu_ok (closed_encO _)
  | drop =>
    have e := top_ok .drop "drop" (.inl ⟨rfl, rfl⟩) s [] h
    simp [b_stack_behind, b_stack_behind_0, b_stack_behind_1, b_stack_behind_2, b_stack_behind_3, b_stack_behind_4, b_stack_behind_5, b_stack_behind_6, Ins.e, k_SUMS, k_INT, t_FIXED, e]
    exact pu_ok (closed_encO _)
  | dup =>
    have e := top_ok .dup "dup" (.inr (.inl ⟨rfl, rfl⟩)) s [] h
    simp [b_stack_behind, b_stack_behind_0, b_stack_behind_1, b_stack_behind_2, b_stack_behind_3, b_stack_behind_4, b_stack_behind_5, b_stack_behind_6, Ins.e, k_SUMS, k_INT, t_FIXED, e]
    exact pu_ok (closed_encO _)
  | isnil =>
    have e := top_ok .isnil "isnil" (.inr (.inr (.inl ⟨rfl, rfl⟩))) s [] h
    simp [b_stack_behind, b_stack_behind_0, b_stack_behind_1, b_stack_behind_2, b_stack_behind_3, b_stack_behind_4, b_stack_behind_5, b_stack_behind_6, Ins.e, k_SUMS, k_INT, t_FIXED, e]
    exact pu_ok (closed_encO _)
  | alike =>
    have e := top_ok .alike "alike" (.inr (.inr (.inr ⟨rfl, rfl⟩))) s [] h
    simp [b_stack_behind, b_stack_behind_0, b_stack_behind_1, b_stack_behind_2, b_stack_behind_3, b_stack_behind_4, b_stack_behind_5, b_stack_behind_6, Ins.e, k_SUMS, k_INT, t_FIXED, e]
    exact pu_ok (closed_encO _)
  | callF =>
    have e := call_f c s [] h
    simp [b_stack_behind, b_stack_behind_0, b_stack_behind_1, b_stack_behind_2, b_stack_behind_3, b_stack_behind_4, b_stack_behind_5, b_stack_behind_6, Ins.e, k_SUMS, k_INT, t_FIXED, e]
    exact pu_ok (closed_encO _)
  | callP =>
    have e := call_p c s [] h
    simp [b_stack_behind, b_stack_behind_0, b_stack_behind_1, b_stack_behind_2, b_stack_behind_3, b_stack_behind_4, b_stack_behind_5, b_stack_behind_6, Ins.e, k_SUMS, k_INT, t_FIXED, e]
    exact pu_ok (closed_encO _)
  | ret =>
    have e : opEq (.tup (tys s)) (.tup [.str "int"]) [] = .ok (.bl (decide (s = [.int]))) [] := opEq_tup s [.int] []
    have e2 : opIx (fnA c) (.int 2) [] = .ok (.str "int") [] := by simp [fnA]
    by_cases hs : s = [.int]
    · rw [decide_eq_true hs] at e
      simp [b_stack_behind, b_stack_behind_0, b_stack_behind_1, b_stack_behind_2, b_stack_behind_3, b_stack_behind_4, b_stack_behind_5, b_stack_behind_6, Ins.e, k_SUMS, k_INT, k_NO_RESULT, t_FIXED, e, e2]
      rw [show beh .ret s = some [] from if_pos hs]
      rfl
    · rw [decide_eq_false hs] at e
      simp [b_stack_behind, b_stack_behind_0, b_stack_behind_1, b_stack_behind_2, b_stack_behind_3, b_stack_behind_4, b_stack_behind_5, b_stack_behind_6, Ins.e, k_SUMS, k_INT, k_NO_RESULT, t_FIXED, e, e2]
      rw [show beh .ret s = none from if_neg hs]
      rfl
end K02
end
section
set_option Elab.async false
set_option linter.all false
set_option maxRecDepth 100000
set_option maxHeartbeats 4000000
set_option autoImplicit false
/-! k02: steps. -/
namespace K02
open PySem PySem.Spec PyProof.Rows L2 VM
def nexts (i : Ins) (p : Int) (b : List Ty) : List (Int × List Ty) := match i with
  | .ret | .trap => []
  | .jump t => [(t, b)]
  | .branch t => if t ≠ p + 1 then (if p + 1 < t then [(p + 1, b), (t, b)] else [(t, b), (p + 1, b)]) else [(p + 1, b)]
  | _ => [(p + 1, b)]
def stepI (i : Ins) (p : Int) (s : List Ty) : Option (List (Int × List Ty)) := (beh i s).map (nexts i p)
def stepsT (c : List Ins) (p : Int) (s : List Ty) : Option (List (Int × List Ty)) := if 0 ≤ p then (match c[p.toNat]? with
    | some i => stepI i p s
    | none => none) else none
def encP (q : Int × List Ty) : A := .tup [.int q.1, .tup (tys q.2)]
def encS : Option (List (Int × List Ty)) → A
  | some l => .lst (l.map encP)
  | none => .non
theorem closed_encPs : ∀ l : List (Int × List Ty), closedL (l.map encP) = true
  | [] => rfl
  | x :: l => by show (closed (encP x) && _) = true; rw [closed_encPs l]; simp [encP]
theorem closed_encS (o : Option (List (Int × List Ty))) : closed (encS o) = true := by
  cases o with
  | none => rfl
  | some l => exact closed_encPs l
theorem sort2_ap (i j : Int) (x y : A) (S : Store) (h : i ≠ j) : opSort2 [.lst [.tup [.int i, x], .tup [.int j, y]]] S = .ok (.lst (if i < j then [.tup [.int i, x], .tup [.int j, y]] else [.tup [.int j, y], .tup [.int i, x]])) S := if_pos h
theorem code_at {c : List Ins} {k : Nat} {i : Ins} (h : c[k]? = some i) (S : Store) : opIx (codeA c) (.int (k : Int)) S = .ok i.e S := by
  refine opIx_tup ?_
  rw [VM.atI_nat, List.getElem?_map, h]; rfl
theorem fn_code (c : List Ins) (S : Store) : opIx (fnA c) (.int 4) S = .ok (codeA c) S := by simp [fnA]
theorem len_code (c : List Ins) (S : Store) : opLen [codeA c] S = .ok (.int c.length) S := by
  show opLen [.tup (c.map Ins.e)] S = _
  simp
theorem steps_ok (c : List Ins) (p : Int) (s : List Ty) (S : Store) (h : s.length ≤ 1000) : m_steps_of [partA c, fnA c, .int p, .tup (tys s)] S = .ok (encS (stepsT c p s)) S := by
  unfold m_steps_of
  rw [pureF_ap _ _ (by simp)]
  by_cases h0 : 0 ≤ p
  · obtain ⟨k, rfl⟩ := Int.eq_ofNat_of_zero_le h0
    cases hc : c[k]? with
    | none =>
      have hl : ¬ ((k : Int) < c.length) := by
        have := List.getElem?_eq_none_iff.mp hc
        omega
      simp [b_steps_of, fn_code, len_code, hl, stepsT, hc, encS]
    | some i =>
      have hl : (k : Int) < c.length := by
        have := (List.getElem?_eq_some_iff.mp hc).1
        omega
      have eb := stack_behind_ok c i s [] h
      cases hb : beh i s with
      | none =>
        rw [hb] at eb
        simp [b_steps_of, b_steps_of_0, b_steps_of_1, b_steps_of_2, b_steps_of_3, b_steps_of_4, b_steps_of_5, b_steps_of_6, fn_code, len_code, hl, code_at hc, eb, stepsT, stepI, hc, hb, encS, encO]
      | some b =>
        rw [hb] at eb
        have fin : ∀ l, (R.ok (.lst (l.map encP)) []).pu S = .ok (encS (some l)) S := fun l => pu_ok (closed_encPs l)
        have e0 : stepsT c (k : Int) s = some (nexts i k b) := by simp [stepsT, stepI, hc, hb]
        rw [e0]
        have x := fin (nexts i k b)
        have ec := code_at hc
        cases i with
        | branch t =>
          simp only [Ins.e] at eb ec
          by_cases ht : t = (k : Int) + 1
          · subst ht
            simp [b_steps_of, b_steps_of_0, b_steps_of_1, b_steps_of_2, b_steps_of_3, b_steps_of_4, b_steps_of_5, b_steps_of_6, fn_code, len_code, hl, ec, eb, encO, Ins.e] at x ⊢
            simp [nexts, encP] at x ⊢
            exact x
          · have e := sort2_ap ((k : Int) + 1) t (.tup (tys b)) (.tup (tys b)) [] (fun z => ht z.symm)
            simp [b_steps_of, b_steps_of_0, b_steps_of_1, b_steps_of_2, b_steps_of_3, b_steps_of_4, b_steps_of_5, b_steps_of_6, fn_code, len_code, hl, ec, eb, encO, Ins.e, ht, e] at x ⊢
            by_cases hlt : (k : Int) + 1 < t
            · simp [nexts, ht, hlt, encP] at x ⊢
              exact x
            · simp [nexts, ht, hlt, encP] at x ⊢
              exact x
        | _ =>
          simp only [Ins.e] at eb ec
          simp [b_steps_of, b_steps_of_0, b_steps_of_1, b_steps_of_2, b_steps_of_3, b_steps_of_4, b_steps_of_5, b_steps_of_6, fn_code, len_code, hl, ec, eb, encO, Ins.e] at x ⊢
          exact x
  · have hl : ¬ 0 ≤ p := h0
    simp [b_steps_of, fn_code, len_code, hl, stepsT, encS]
def Ins.w : Ins → Str
  | .push _ => "push" | .load _ => "load" | .store _ => "store"
  | .add => "add" | .sub => "sub" | .mul => "mul" | .div => "div" | .less => "less" | .same => "same"
  | .row => "row" | .at_ => "at" | .put => "put" | .size => "size" | .say => "say" | .trap => "trap"
  | .jump _ => "jump" | .branch _ => "branch" | .new => "new" | .newN => "new" | .nilP => "nil" | .nilI => "nil"
  | .get _ => "get" | .set _ => "set" | .drop => "drop" | .dup => "dup" | .isnil => "isnil" | .alike => "alike"
  | .callF => "call" | .callP => "call" | .ret => "return"
theorem law_steps_ok (c : List Ins) (p : Int) (s : List Ty) (S : Store) (h : s.length ≤ 1000) : m_law_steps [codeA c, .int p, .tup (tys s)] S = .ok (encS (stepsT c p s)) S := by
  unfold m_law_steps
  rw [pureF_ap _ _ (by simp)]
  by_cases h0 : 0 ≤ p
  · obtain ⟨k, rfl⟩ := Int.eq_ofNat_of_zero_le h0
    cases hc : c[k]? with
    | none =>
      have hl : ¬ ((k : Int) < c.length) := by
        have := List.getElem?_eq_none_iff.mp hc
        omega
      simp [b_law_steps, len_code, hl, stepsT, hc, encS]
    | some i =>
      have hl : (k : Int) < c.length := by
        have := (List.getElem?_eq_some_iff.mp hc).1
        omega
      have ec := code_at hc
      have eb := law_behind_ok i s [] h
      cases hb : beh i s with
      | none =>
        rw [hb] at eb
        have e0 : stepsT c (k : Int) s = none := by simp [stepsT, stepI, hc, hb]
        rw [e0]
        have e1 : opIx i.e (.int 0) [] = .ok (.str i.w) [] := by cases i <;> simp [Ins.e, Ins.w]
        simp [b_law_steps, b_law_steps_0, b_law_steps_1, b_law_steps_2, b_law_steps_3, b_law_steps_4, b_law_steps_5, len_code, hl, ec, e1, eb, encS, encO]
      | some b =>
        rw [hb] at eb
        have fin : ∀ l, (R.ok (.lst (l.map encP)) []).pu S = .ok (encS (some l)) S := fun l => pu_ok (closed_encPs l)
        have e0 : stepsT c (k : Int) s = some (nexts i k b) := by simp [stepsT, stepI, hc, hb]
        rw [e0]
        have x := fin (nexts i k b)
        cases i with
        | branch t =>
          simp only [Ins.e] at eb ec
          by_cases ht : t = (k : Int) + 1
          · subst ht
            simp [b_law_steps, b_law_steps_0, b_law_steps_1, b_law_steps_2, b_law_steps_3, b_law_steps_4, b_law_steps_5, len_code, hl, ec, eb, encO, Ins.e] at x ⊢
            simp [nexts, encP] at x ⊢
            exact x
          · have e := sort2_ap ((k : Int) + 1) t (.tup (tys b)) (.tup (tys b)) [] (fun z => ht z.symm)
            simp [b_law_steps, b_law_steps_0, b_law_steps_1, b_law_steps_2, b_law_steps_3, b_law_steps_4, b_law_steps_5, len_code, hl, ec, eb, encO, Ins.e, ht, e] at x ⊢
            by_cases hlt : (k : Int) + 1 < t
            · simp [nexts, ht, hlt, encP] at x ⊢
              exact x
            · simp [nexts, ht, hlt, encP] at x ⊢
              exact x
        | _ =>
          simp only [Ins.e] at eb ec
          simp [b_law_steps, b_law_steps_0, b_law_steps_1, b_law_steps_2, b_law_steps_3, b_law_steps_4, b_law_steps_5, len_code, hl, ec, eb, encO, Ins.e] at x ⊢
          exact x
  · have hl : ¬ 0 ≤ p := h0
    simp [b_law_steps, len_code, hl, stepsT, encS]
end K02
end
section
set_option Elab.async false
set_option linter.all false
set_option maxRecDepth 100000
set_option maxHeartbeats 4000000
set_option autoImplicit false
/-! k02: the walk over places. -/
namespace K02
open PySem PySem.Spec PyProof.Rows L2 VM
abbrev Fd := List (Int × List Ty)
abbrev Pd := List (Int × List Int)
def look2 {α : Type} (d : List (Int × α)) (p : Int) : Option α := (d.find? fun q => decide (q.1 = p)).map (·.2)
def fA (d : Fd) : List (Key × A) := d.map fun q => (.inl q.1, .tup (tys q.2))
def pA (d : Pd) : List (Key × A) := d.map fun q => (.inl q.1, .tup (q.2.map .int))
@[simp] theorem look2_nil {α : Type} (p : Int) : look2 ([] : List (Int × α)) p = none := rfl
@[simp] theorem look2_cons {α : Type} (q : Int × α) (d : List (Int × α)) (p : Int) : look2 (q :: d) p = if q.1 = p then some q.2 else look2 d p := by
  unfold look2
  by_cases h : q.1 = p
  · simp [h]
  · simp [h]
theorem look2_app {α : Type} (d e : List (Int × α)) (p : Int) : look2 (d ++ e) p = match look2 d p with
    | some x => some x
    | none => look2 e p := by
  induction d with
  | nil => rfl
  | cons q d ih =>
    rw [List.cons_append, look2_cons, look2_cons]
    by_cases h : q.1 = p
    · simp [h]
    · simp [h, ih]
@[simp] theorem getK_fA (d : Fd) (p : Int) : getK (fA d) (.inl p) = (look2 d p).map fun s => .tup (tys s) := by
  induction d with
  | nil => rfl
  | cons q d ih =>
    show getK ((.inl q.1, .tup (tys q.2)) :: fA d) (.inl p) = _
    rw [getK_cons, look2_cons, ih]
    by_cases h : q.1 = p
    · simp [h]
    · simp [h]
@[simp] theorem getK_pA (d : Pd) (p : Int) : getK (pA d) (.inl p) = (look2 d p).map fun s => .tup (s.map .int) := by
  induction d with
  | nil => rfl
  | cons q d ih =>
    show getK ((.inl q.1, .tup (q.2.map .int)) :: pA d) (.inl p) = _
    rw [getK_cons, look2_cons, ih]
    by_cases h : q.1 = p
    · simp [h]
    · simp [h]
theorem fA_put (d : Fd) (p : Int) (s : List Ty) (h : look2 d p = none) : putA (fA d) (.inl p) (.tup (tys s)) = fA (d ++ [(p, s)]) := by
  rw [putA_new _ _ _ (by simp [h])]; simp [fA]
theorem pA_put (d : Pd) (p : Int) (s : List Int) (h : look2 d p = none) : putA (pA d) (.inl p) (.tup (s.map .int)) = pA (d ++ [(p, s)]) := by
  rw [putA_new _ _ _ (by simp [h])]; simp [pA]
@[simp] theorem fA_len (d : Fd) : (fA d).length = d.length := List.length_map _
@[simp] theorem pA_len (d : Pd) : (pA d).length = d.length := List.length_map _
structure B where
  f : Fd
  p : Pd
  q : List Int
inductive Pr where
  | on (b : B) | apart (b : B) (u v : List Int)
def proc (pp : List Int) : Fd → B → Pr
  | [], b => .on b
  | (l, s) :: r, b => match look2 b.f l with
    | none => proc pp r ⟨b.f ++ [(l, s)], b.p ++ [(l, pp ++ [l])], b.q ++ [l]⟩
    | some s' => if s' = s then proc pp r b else .apart b ((look2 b.p l).getD []) (pp ++ [l])
inductive Res where
  | done (b : B) (at_ : Nat) | stuck (b : B) (p : List Int) | apart (b : B) (u v : List Int) | out
def wrun (c : List Ins) : Nat → B → Nat → Res
  | 0, _, _ => .out
  | n + 1, b, at_ => match b.q[at_]? with
    | none => .done b at_
    | some place => match look2 b.f place, look2 b.p place with
      | some s, some pp => (match stepsT c place s with
        | none => .stuck b pp
        | some l => (match proc pp l b with
          | .on b' => wrun c n b' (at_ + 1)
          | .apart b' u v => .apart b' u v))
      | _, _ => .out
def encB (b : B) : Store := [.dic (fA b.f), .dic (pA b.p), .lst (b.q.map .int)]
def stuckA (p : List Int) : A := .tup [.non, .tup [.str "stuck", .tup (p.map .int)]]
def apartA (u v : List Int) : A := .tup [.non, .tup [.str "apart", .tup (u.map .int), .tup (v.map .int)]]
/-- keys of found and of paths are the queue -/
def Keys (b : B) : Prop := b.f.map (·.1) = b.q ∧ b.p.map (·.1) = b.q
theorem look2_some {α : Type} {d : List (Int × α)} {p : Int} (h : p ∈ d.map (·.1)) : ∃ x, look2 d p = some x := by
  induction d with
  | nil => cases h
  | cons q d ih =>
    rw [look2_cons]
    by_cases e : q.1 = p
    · exact ⟨_, by rw [if_pos e]⟩
    · rw [if_neg e]
      refine ih ?_
      rcases List.mem_cons.mp h with h | h
      · exact absurd h.symm e
      · exact h
theorem look2_none {α : Type} {d : List (Int × α)} {p : Int} (h : look2 d p = none) : p ∉ d.map (·.1) := fun z => by
  obtain ⟨x, e⟩ := look2_some z
  rw [e] at h; cases h
theorem none_look2 {α : Type} {d : List (Int × α)} {p : Int} (h : p ∉ d.map (·.1)) : look2 d p = none := by
  induction d with
  | nil => rfl
  | cons q d ih =>
    simp only [List.map_cons, List.mem_cons, not_or] at h
    rw [look2_cons, if_neg (fun z => h.1 z.symm)]
    exact ih h.2
theorem keys_push {b : B} {l : Int} {s : List Ty} {x : List Int} (k : Keys b) : Keys ⟨b.f ++ [(l, s)], b.p ++ [(l, x)], b.q ++ [l]⟩ := by
  refine ⟨?_, ?_⟩
  · show (b.f ++ [(l, s)]).map (·.1) = b.q ++ [l]; rw [List.map_append, k.1]; rfl
  · show (b.p ++ [(l, x)]).map (·.1) = b.q ++ [l]; rw [List.map_append, k.2]; rfl
theorem ints_app (u v : List Int) : u.map A.int ++ v.map A.int = (u ++ v).map A.int := (List.map_append).symm
theorem proc_ok (c : List Ins) (at_ place : Int) (pp : List Int) : ∀ (l : Fd) (b : B) (e7 e8 e9 : Option A), Keys b → look2 b.p place = some pp → b.q.length + l.length ≤ 10000 → pp.length ≤ 10000 →
    loopL (gT ([8, 9].map gN)) b_walked_0 [7, 8, 9] (l.map encP) [some (partA c), some (fnA c), some (.ref 0), some (.ref 1), some (.ref 2), some (.int at_), some (.int place), e7, e8, e9] (encB b) =
      match proc pp l b with
      | .on b' => .nx [some (partA c), some (fnA c), some (.ref 0), some (.ref 1), some (.ref 2), some (.int at_), some (.int place), none, none, none] (encB b')
      | .apart b' u v => .rt (apartA u v) (encB b')
  | [], b, e7, e8, e9, _, _, _, _ => by simp [proc]
  | (l, s) :: r, b, e7, e8, e9, k, hp, hz, hpp => by
    have hq : b.f.length = b.q.length := by rw [← k.1, List.length_map]
    have hq2 : b.p.length = b.q.length := by rw [← k.2, List.length_map]
    simp only [List.length_cons] at hz
    have z1 : b.f.length < 16777216 := by omega
    have z2 : b.p.length < 16777216 := by omega
    have z3 : b.q.length < 16777216 := by omega
    have z4 : pp.length + 1 ≤ 16777216 := by omega
    unfold proc
    cases h : look2 b.f l with
    | none =>
      have hpn : look2 b.p l = none := none_look2 (by rw [k.2, ← k.1]; exact look2_none h)
      have hp' : look2 (b.p ++ [(l, pp ++ [l])]) place = some pp := by rw [look2_app, hp]
      have ih := proc_ok c at_ place pp r ⟨b.f ++ [(l, s)], b.p ++ [(l, pp ++ [l])], b.q ++ [l]⟩ none (some (.int l)) (some (.tup (tys s))) (keys_push k) hp' (by simp; omega) hpp
      have e1 := fA_put b.f l s h
      have e2 := pA_put b.p l (pp ++ [l]) hpn
      simp only [List.map_append, List.map_cons, List.map_nil] at e2
      simp only
      rw [← ih]
      simp [encP, encB, b_walked_0, h, hp, z1, z2, z3, z4, e1, e2, opAdd_tup]
    | some s' =>
      obtain ⟨u, hu⟩ : ∃ u, look2 b.p l = some u := look2_some (by rw [k.2, ← k.1]; exact Classical.byContradiction fun z => by rw [none_look2 z] at h; cases h)
      by_cases e : s' = s
      · subst e
        have ih := proc_ok c at_ place pp r b none (some (.int l)) (some (.tup (tys s'))) k hp (by omega) hpp
        simp only [if_true]
        rw [← ih]
        simp [encP, encB, b_walked_0, h, hp]
      · simp only [if_neg e]
        simp [encP, encB, b_walked_0, h, hp, hu, e, z4, opAdd_tup, apartA]
/-! bounds -/
def Small (b : B) (k : Nat) : Prop := ∀ p s, look2 b.f p = some s → s.length ≤ k
theorem changedT_len {s t l r : List Ty} (h : changedT s t l = some r) : r.length ≤ s.length - t.length + l.length ∧ t.length ≤ s.length := by
  unfold changedT takenT at h
  split at h
  · rename_i z
    simp at h
    subst h
    rw [List.length_append, List.length_take]
    omega
  · simp at h
theorem beh_len {i : Ins} {s b : List Ty} (h : beh i s = some b) : b.length ≤ s.length + 1 := by
  cases i with
  | load i => cases h; simp
  | store i =>
    have := takenT_len h
    omega
  | new => cases h; simp
  | newN => cases h
  | nilP => cases h; simp
  | nilI => cases h; simp
  | get f =>
    simp only [beh] at h
    split at h
    · have := changedT_len h; simp at this; omega
    · split at h
      · have := changedT_len h; simp at this; omega
      · cases h
  | set f =>
    simp only [beh] at h
    split at h
    · have := changedT_len h; simp at this; omega
    · split at h
      · have := changedT_len h; simp at this; omega
      · cases h
  | drop =>
    simp only [beh] at h
    split at h
    · cases h
    · cases h; simp; omega
  | dup =>
    simp only [beh] at h
    split at h
    · cases h
    · cases h; simp
  | isnil =>
    simp only [beh] at h
    split at h
    · cases h
    · split at h
      · cases h
      · cases h; simp
  | alike =>
    simp only [beh] at h
    split at h
    · split at h
      · cases h
      · cases h; simp; omega
    · cases h
  | ret =>
    simp only [beh] at h
    split at h
    · cases h; simp
    · cases h
  | _ => have := changedT_len h; simp at this; omega
theorem steps_small {c : List Ins} {p : Int} {s : List Ty} {l : Fd} (h : stepsT c p s = some l) : ∀ q ∈ l, q.2.length ≤ s.length + 1 := by
  unfold stepsT at h
  split at h
  · split at h
    · rename_i i _
      unfold stepI at h
      cases hb : beh i s with
      | none => rw [hb] at h; cases h
      | some b =>
        rw [hb] at h
        cases h
        have hl := beh_len hb
        intro q hq
        cases i with
        | ret => cases hq
        | trap => cases hq
        | branch t =>
          simp only [nexts] at hq
          split at hq
          · split at hq <;> (simp at hq; rcases hq with rfl | rfl <;> exact hl)
          · simp at hq; subst hq; exact hl
        | _ => simp [nexts] at hq; subst hq; exact hl
    · cases h
  · cases h
theorem steps_two {c : List Ins} {p : Int} {s : List Ty} {l : Fd} (h : stepsT c p s = some l) : l.length ≤ 2 := by
  unfold stepsT at h
  split at h
  · split at h
    · rename_i i _
      unfold stepI at h
      cases hb : beh i s with
      | none => rw [hb] at h; cases h
      | some b =>
        rw [hb] at h
        cases h
        cases i with
        | branch t =>
          simp only [nexts]
          split
          · split <;> simp
          · simp
        | _ => simp [nexts]
    · cases h
  · cases h
theorem proc_facts (pp : List Int) : ∀ (l : Fd) (b b' : B) (k : Nat), proc pp l b = .on b' → Keys b → Small b k → (∀ q ∈ l, q.2.length ≤ k) → Keys b' ∧ Small b' k ∧ b'.q.length ≤ b.q.length + l.length ∧ (∀ p x, look2 b.p p = some x → look2 b'.p p = some x) ∧ (∀ p x, look2 b.f p = some x → look2 b'.f p = some x)
  | [], b, b', k, h, hk, hs, _ => by cases h; exact ⟨hk, hs, Nat.le_refl _, fun _ _ z => z, fun _ _ z => z⟩
  | (l, s) :: r, b, b', k, h, hk, hs, hl => by
    unfold proc at h
    cases e : look2 b.f l with
    | none =>
      rw [e] at h
      have hsl : s.length ≤ k := hl (l, s) List.mem_cons_self
      obtain ⟨a1, a2, a3, a4, a5⟩ := proc_facts pp r _ b' k h (keys_push hk) (fun p x hx => by
        rw [look2_app] at hx
        cases e2 : look2 b.f p with
        | some y => rw [e2] at hx; cases hx; exact hs p x e2
        | none =>
          rw [e2] at hx
          simp at hx
          rw [← hx.2]; exact hsl) (fun q hq => hl q (List.mem_cons_of_mem _ hq))
      refine ⟨a1, a2, ?_, fun p x hx => a4 p x (by rw [look2_app, hx]), fun p x hx => a5 p x (by rw [look2_app, hx])⟩
      simp at a3 ⊢
      omega
    | some s' =>
      rw [e] at h
      simp only at h
      split at h
      · obtain ⟨a1, a2, a3, a4, a5⟩ := proc_facts pp r b b' k h hk hs (fun q hq => hl q (List.mem_cons_of_mem _ hq))
        exact ⟨a1, a2, by simp; omega, a4, a5⟩
      · cases h
theorem proc_paths (pp : List Int) : ∀ (l : Fd) (b b' : B) (k : Nat), proc pp l b = .on b' → Keys b → (∀ p x, look2 b.p p = some x → x.length ≤ k) → pp.length + 1 ≤ k → ∀ p x, look2 b'.p p = some x → x.length ≤ k
  | [], b, b', k, h, hk, hs, _ => by cases h; exact hs
  | (l, s) :: r, b, b', k, h, hk, hs, hl => by
    unfold proc at h
    cases e : look2 b.f l with
    | none =>
      rw [e] at h
      refine proc_paths pp r _ b' k h (keys_push hk) (fun p x hx => ?_) hl
      rw [look2_app] at hx
      cases e2 : look2 b.p p with
      | some y => rw [e2] at hx; cases hx; exact hs p x e2
      | none =>
        rw [e2] at hx
        simp at hx
        rw [← hx.2]
        simp
        omega
    | some s' =>
      rw [e] at h
      simp only at h
      split at h
      · exact proc_paths pp r b b' k h hk hs hl
      · cases h
theorem encB_r2 (b : B) : encB b = [.dic (fA b.f), .dic (pA b.p), .lst (b.q.map .int)] := rfl
theorem atI_q (q : List Int) (k : Nat) : L2.atI (q.map A.int) (k : Int) = (q[k]?).map A.int := by rw [VM.atI_nat, List.getElem?_map]
abbrev envW (c : List Ins) (at_ : Nat) : Slots := [some (partA c), some (fnA c), some (.ref 0), some (.ref 1), some (.ref 2), some (.int at_), none, none, none, none]
theorem while_ok (c : List Ins) : ∀ (n : Nat) (b : B) (at_ k : Nat) (e6 e7 e8 e9 : Option A), Keys b → Small b k → k + n ≤ 1000 → b.q.length + 2 * n ≤ 5000 → (∀ p x, look2 b.p p = some x → x.length ≤ 5000 - 2 * n) →
    whileL (tVal (c2 opLt (cVar 5) (cApp opLen (cCons (cVar 4) cNil)))) b_walked_5 [6, 7, 8, 9] n [some (partA c), some (fnA c), some (.ref 0), some (.ref 1), some (.ref 2), some (.int at_), e6, e7, e8, e9] (encB b) =
      match wrun c n b at_ with
      | .done b' a' => .nx (envW c a') (encB b')
      | .stuck b' p => .rt (stuckA p) (encB b')
      | .apart b' u v => .rt (apartA u v) (encB b')
      | .out => .bad
  | 0, b, at_, k, e6, e7, e8, e9, _, _, _, _, _ => rfl
  | n + 1, b, at_, k, e6, e7, e8, e9, hk, hs, hkn, hz, hp => by
    unfold wrun whileL
    have ih := while_ok c n
    generalize whileL (tVal (c2 opLt (cVar 5) (cApp opLen (cCons (cVar 4) cNil)))) b_walked_5 [6, 7, 8, 9] n = Wl at ih ⊢
    cases hq : b.q[at_]? with
    | none =>
      have hl : ¬ ((at_ : Int) < b.q.length) := by
        have := List.getElem?_eq_none_iff.mp hq
        omega
      simp [encB, hl]
    | some place =>
      have hl : (at_ : Int) < b.q.length := by
        have := (List.getElem?_eq_some_iff.mp hq).1
        omega
      have hm : place ∈ b.q := List.mem_of_getElem? hq
      obtain ⟨s, hf⟩ : ∃ s, look2 b.f place = some s := look2_some (by rw [hk.1]; exact hm)
      obtain ⟨pp, hpp⟩ : ∃ s, look2 b.p place = some s := look2_some (by rw [hk.2]; exact hm)
      have hsl : s.length ≤ 1000 := by have := hs place s hf; omega
      have es := steps_ok c place s (encB b) hsl
      have ea := atI_q b.q at_
      rw [hq] at ea
      simp only [hf, hpp]
      cases hst : stepsT c place s with
      | none =>
        rw [hst] at es
        simp [encB, encS] at es
        simp [encB, hl, b_walked_5, b_walked_4, b_walked_3, b_walked_2, ea, hf, es, hpp, stuckA]
      | some l =>
        rw [hst] at es
        have h2 := steps_two hst
        have hp0 := hp place pp hpp
        have hpr := proc_ok c ((at_ : Int) + 1) place pp l b (some (.lst (l.map encP))) none none hk hpp (by omega) (by omega)
        simp only [encB, encS] at es
        simp only [List.map_cons, List.map_nil] at hpr
        have goal2 : turnL Wl [6, 7, 8, 9] (loopL (gT [gN 8, gN 9]) b_walked_0 [7, 8, 9] (l.map encP) [some (partA c), some (fnA c), some (.ref 0), some (.ref 1), some (.ref 2), some (.int ((at_ : Int) + 1)), some (.int place), some (.lst (l.map encP)), none, none] (encB b)) =
            (match (match proc pp l b with
              | .on b' => wrun c n b' (at_ + 1)
              | .apart b' u v => .apart b' u v : Res) with
            | .done b' a' => .nx (envW c a') (encB b')
            | .stuck b' p => .rt (stuckA p) (encB b')
            | .apart b' u v => .rt (apartA u v) (encB b')
            | .out => .bad) := by
          rw [hpr]
          cases hpc : proc pp l b with
          | on b' =>
            obtain ⟨k1, k2, k3, k4, k5⟩ := proc_facts pp l b b' (k + 1) hpc hk (fun p s h => by have := hs p s h; omega) (fun q hq => by have := steps_small hst q hq; have := hs place s hf; omega)
            have := ih b' (at_ + 1) (k + 1) (some (.int place)) none none none k1 k2 (by omega) (by omega) (proc_paths pp l b b' (5000 - 2 * n) hpc hk (fun p x h => by have := hp p x h; omega) (by omega))
            simp only [turnL_nx]
            exact this
          | apart b' u v => rfl
        simp [encB] at goal2
        simp [encB, hl, b_walked_5, b_walked_4, b_walked_3, b_walked_2, b_walked_1, ea, hf, es]
        exact goal2
end K02
end
section
set_option Elab.async false
set_option linter.all false
set_option maxRecDepth 100000
set_option maxHeartbeats 4000000
set_option autoImplicit false
/-! k02: walked and _law_least. -/
namespace K02
open PySem PySem.Spec PyProof.Rows L2 VM
def b0 : B := ⟨[(0, [])], [(0, [0])], [0]⟩
theorem keys0 : Keys b0 := ⟨rfl, rfl⟩
theorem small0 : Small b0 0 := fun p s h => by
  simp [b0] at h
  rw [h.2]; simp
theorem optMapK_closed (f : A → Option A) (hf : ∀ a, closed a = true → f a = some a) : ∀ kvs : List (Key × A), closedK kvs = true → optMapK f kvs = some kvs
  | [], _ => rfl
  | (k, a) :: r, h => by
    obtain ⟨h1, h2⟩ := Bool.and_eq_true_iff.mp (show (closed a && closedK r) = true from h)
    unfold optMapK
    rw [hf a h1, optMapK_closed f hf r h2]
theorem closed_fA : ∀ d : Fd, closedK (fA d) = true
  | [] => rfl
  | q :: d => by
    show (closed (.tup (tys q.2)) && closedK (fA d)) = true
    rw [closed_fA d]; simp
theorem pu_found (f : Fd) (S : Store) (rest : List O) : (R.ok (.tup [.ref 0, .non]) (O.dic (fA f) :: rest)).pu S = .ok (.tup [.dic (fA f), .non]) S := by
  have e : fz 4 (O.dic (fA f) :: rest) (.tup [.ref 0, .non]) = some (.tup [.dic (fA f), .non]) := by
    have e1 : fz 3 (O.dic (fA f) :: rest) (.ref 0) = some (.dic (fA f)) := by
      show (optMapK (fz 2 (O.dic (fA f) :: rest)) (fA f)).map A.dic = _
      rw [optMapK_closed _ (fun a h => fz_closed 2 h) _ (closed_fA f)]; rfl
    show (optMap (fz 3 (O.dic (fA f) :: rest)) [.ref 0, .non]).map A.tup = _
    unfold optMap
    rw [e1]; rfl
  show (match fz 4 (O.dic (fA f) :: rest) (.tup [.ref 0, .non]) with | some b => R.ok b S | none => .bad) = _
  rw [e]
theorem pu_dic (f : Fd) (S : Store) (rest : List O) : (R.ok (.ref 0) (O.dic (fA f) :: rest)).pu S = .ok (.dic (fA f)) S := by
  have e1 : fz 4 (O.dic (fA f) :: rest) (.ref 0) = some (.dic (fA f)) := by
    show (optMapK (fz 3 (O.dic (fA f) :: rest)) (fA f)).map A.dic = _
    rw [optMapK_closed _ (fun a h => fz_closed 3 h) _ (closed_fA f)]; rfl
  show (match fz 4 (O.dic (fA f) :: rest) (.ref 0) with | some b => R.ok b S | none => .bad) = _
  rw [e1]
theorem closed_ints : ∀ l : List Int, closedL (l.map A.int) = true
  | [] => rfl
  | _ :: l => closed_ints l
theorem walked_ok (c : List Ins) (S : Store) : m_walked [partA c, fnA c] S = match wrun c 100 b0 0 with
    | .done b _ => .ok (.tup [.dic (fA b.f), .non]) S
    | .stuck _ p => .ok (stuckA p) S
    | .apart _ u v => .ok (apartA u v) S
    | .out => .bad := by
  unfold m_walked
  rw [pureF_ap _ _ (by simp)]
  have hw := while_ok c 100 b0 0 0 none none none none keys0 small0 (by decide) (by decide) (fun p x h => by simp [b0] at h; rw [← h.2]; simp)
  have ed : ∀ e S, (cDicN [((cC (.int 0)), (cTup cNil))]) e S = .ok (.ref S.length) (S ++ [.dic (fA b0.f)]) := fun e S => rfl
  have ep : ∀ e S, (cDicN [((cC (.int 0)), (cTup (cCons (cC (.int 0)) cNil)))]) e S = .ok (.ref S.length) (S ++ [.dic (pA b0.p)]) := fun e S => rfl
  have eb : encB b0 = [.dic (fA b0.f), .dic (pA b0.p), .lst [.int 0]] := rfl
  rw [eb] at hw
  have hw' : sWhile 100 (tVal (c2 opLt (cVar 5) (cApp opLen (cCons (cVar 4) cNil)))) b_walked_5 [6, 7, 8, 9] [some (partA c), some (fnA c), some (.ref 0), some (.ref 1), some (.ref 2), some (.int 0), none, none, none, none] [.dic (fA b0.f), .dic (pA b0.p), .lst [.int 0]] = _ := hw
  simp [b_walked, b_walked_10, b_walked_9, b_walked_8, b_walked_7, ed, ep, hw']
  cases wrun c 100 b0 0 with
  | done b a => simp [b_walked_6, encB]; exact pu_found _ _ _
  | stuck b p => simp; exact pu_ok (by simp [stuckA, closed_ints])
  | apart b u v => simp; exact pu_ok (by simp [apartA, closed_ints])
  | out => simp
/-! the law's own -/
def encL (b : B) : Store := [.dic (fA b.f), .lst (b.q.map .int)]
theorem lproc_ok (c : List Ins) (pp : List Int) : ∀ (l : Fd) (b : B) (e3 e4 e5 e6 : Option A), Keys b → b.q.length + l.length ≤ 10000 →
    loopL (gT ([5, 6].map gN)) b_law_least_1 [3, 4, 5, 6] (l.map encP) [some (codeA c), some (.ref 0), some (.ref 1), e3, e4, e5, e6] (encL b) =
      match proc pp l b with
      | .on b' => .nx [some (codeA c), some (.ref 0), some (.ref 1), none, none, none, none] (encL b')
      | .apart b' _ _ => .rt .non (encL b')
  | [], b, e3, e4, e5, e6, _, _ => by simp [proc]
  | (l, s) :: r, b, e3, e4, e5, e6, k, hz => by
    have hq : b.f.length = b.q.length := by rw [← k.1, List.length_map]
    simp only [List.length_cons] at hz
    have z1 : b.f.length < 16777216 := by omega
    have z3 : b.q.length < 16777216 := by omega
    unfold proc
    cases h : look2 b.f l with
    | none =>
      have ih := lproc_ok c pp r ⟨b.f ++ [(l, s)], b.p ++ [(l, pp ++ [l])], b.q ++ [l]⟩ none none (some (.int l)) (some (.tup (tys s))) (keys_push k) (by simp; omega)
      have e1 := fA_put b.f l s h
      simp only
      rw [← ih]
      simp [encP, encL, b_law_least_1, b_law_least_0, h, z1, z3, e1]
    | some s' =>
      by_cases e : s' = s
      · subst e
        have ih := lproc_ok c pp r b none none (some (.int l)) (some (.tup (tys s'))) k (by omega)
        simp only [if_true]
        rw [← ih]
        simp [encP, encL, b_law_least_1, b_law_least_0, h]
      · simp only [if_neg e]
        simp [encP, encL, b_law_least_1, b_law_least_0, h, e]
/-- all places lie in [0, 60], each once -/
def Inq (b : B) : Prop := b.q.Nodup ∧ ∀ x ∈ b.q, 0 ≤ x ∧ x ≤ 60
theorem inq_len {b : B} (h : Inq b) : b.q.length ≤ 61 := by
  have := nat_nodup_len (b.q.map Int.toNat) (List.range 61) (by
    rw [List.nodup_iff_pairwise_ne, List.pairwise_map]
    refine List.Pairwise.imp_of_mem (fun {x y} hx hy hne e => hne ?_) h.1
    have := h.2 x hx
    have := h.2 y hy
    omega) (fun x hx => by
    obtain ⟨y, hy, rfl⟩ := List.mem_map.mp hx
    have := h.2 y hy
    exact List.mem_range.mpr (by omega))
  simpa using this
theorem proc_inq (pp : List Int) : ∀ (l : Fd) (b b' : B), proc pp l b = .on b' → Keys b → Inq b → (∀ q ∈ l, 0 ≤ q.1 ∧ q.1 ≤ 60) → Inq b'
  | [], b, b', h, hk, hs, _ => by cases h; exact hs
  | (l, s) :: r, b, b', h, hk, hs, hl => by
    unfold proc at h
    cases e : look2 b.f l with
    | none =>
      rw [e] at h
      have hn : l ∉ b.q := by rw [← hk.1]; exact look2_none e
      refine proc_inq pp r _ b' h (keys_push hk) ⟨?_, fun x hx => ?_⟩ (fun q hq => hl q (List.mem_cons_of_mem _ hq))
      · exact List.nodup_append.mpr ⟨hs.1, by simp, fun a ha b hb z => by simp at hb; subst hb; subst z; exact hn ha⟩
      · rcases List.mem_append.mp hx with hx | hx
        · exact hs.2 x hx
        · simp at hx; subst hx; exact hl (_, s) List.mem_cons_self
    | some s' =>
      rw [e] at h
      simp only at h
      split at h
      · exact proc_inq pp r b b' h hk hs (fun q hq => hl q (List.mem_cons_of_mem _ hq))
      · cases h
def insOk : Ins → Prop
  | .jump t | .branch t => 0 ≤ t ∧ t < 60
  | .push w => -2147483648 ≤ w ∧ w ≤ 2147483647
  | _ => True
structure WFc (c : List Ins) : Prop where
  len : c.length ≤ 60
  ok : ∀ i ∈ c, insOk i
theorem steps_in {c : List Ins} (hc : WFc c) {p : Int} {s : List Ty} {l : Fd} (h : stepsT c p s = some l) : ∀ q ∈ l, 0 ≤ q.1 ∧ q.1 ≤ 60 := by
  unfold stepsT at h
  split at h
  · rename_i hp
    split at h
    · rename_i i hi
      unfold stepI at h
      have hlt := (List.getElem?_eq_some_iff.mp hi).1
      have hl := hc.len
      have hok := hc.ok i (List.mem_of_getElem? hi)
      cases hb : beh i s with
      | none => rw [hb] at h; cases h
      | some b =>
        rw [hb] at h
        cases h
        intro q hq
        cases i with
        | ret => cases hq
        | trap => cases hq
        | jump t =>
          simp only [insOk] at hok
          simp [nexts] at hq; subst hq; show 0 ≤ t ∧ t ≤ 60; omega
        | branch t =>
          simp only [insOk] at hok
          simp only [nexts] at hq
          split at hq
          · split at hq <;> (simp at hq; rcases hq with rfl | rfl <;> simp <;> omega)
          · simp at hq; subst hq; simp; omega
        | _ => simp [nexts] at hq; subst hq; simp; omega
    · cases h
  · cases h
abbrev rg70 (k m : Nat) : List A := (List.range' k m).map fun j => .int (j : Nat)
theorem least_loop (c : List Ins) (hc : WFc c) : ∀ (m n : Nat) (b : B) (at_ k : Nat) (e3 e4 e5 e6 : Option A), m + at_ = 70 → m < n → Keys b → Inq b → Small b k → k + m ≤ 900 →
    loopL (gN 3) b_law_least_2 [3, 4, 5, 6] (rg70 at_ m) [some (codeA c), some (.ref 0), some (.ref 1), e3, e4, e5, e6] (encL b) =
      match wrun c n b at_ with
      | .done b' _ => .nx [some (codeA c), some (.ref 0), some (.ref 1), none, none, none, none] (encL b')
      | .stuck b' _ => .rt .non (encL b')
      | .apart b' _ _ => .rt .non (encL b')
      | .out => .bad
  | m, 0, b, at_, k, e3, e4, e5, e6, hm, hn, _, _, _, _ => absurd hn (by omega)
  | 0, n + 1, b, at_, k, e3, e4, e5, e6, hm, hn, hk, hi, hs, _ => by
    have hq : b.q[at_]? = none := List.getElem?_eq_none (by have := inq_len hi; omega)
    rw [show rg70 at_ 0 = [] from rfl]
    simp [wrun, hq]
  | m + 1, n + 1, b, at_, k, e3, e4, e5, e6, hm, hn, hk, hi, hs, hkm => by
    have ih := least_loop c hc m
    have hrg : rg70 at_ (m + 1) = .int (at_ : Nat) :: rg70 (at_ + 1) m := by simp [rg70, List.range'_succ]
    rw [hrg]
    unfold wrun
    have hz := inq_len hi
    cases hq : b.q[at_]? with
    | none =>
      have hl : ¬ ((at_ : Int) < b.q.length) := by
        have := List.getElem?_eq_none_iff.mp hq
        omega
      have := ih (n + 1) b (at_ + 1) k (some (.int (at_ : Nat))) none none none (by omega) (by omega) hk hi hs (by omega)
      have hq2 : b.q[at_ + 1]? = none := List.getElem?_eq_none (by have := List.getElem?_eq_none_iff.mp hq; omega)
      simp only [wrun, hq2] at this
      refine Eq.trans ?_ this
      generalize rg70 (at_ + 1) m = rest
      simp [encL, b_law_least_2, hl]
    | some place =>
      have hl : (at_ : Int) < b.q.length := by
        have := (List.getElem?_eq_some_iff.mp hq).1
        omega
      have hm2 : place ∈ b.q := List.mem_of_getElem? hq
      obtain ⟨s, hf⟩ : ∃ s, look2 b.f place = some s := look2_some (by rw [hk.1]; exact hm2)
      obtain ⟨pp, hpp⟩ : ∃ s, look2 b.p place = some s := look2_some (by rw [hk.2]; exact hm2)
      have hsl : s.length ≤ 1000 := by have := hs place s hf; omega
      have es := law_steps_ok c place s (encL b) hsl
      have ea := atI_q b.q at_
      rw [hq] at ea
      simp only [hf, hpp]
      cases hst : stepsT c place s with
      | none =>
        rw [hst] at es
        simp only [encL, encS] at es
        simp [encL, hl, b_law_least_2, ea, hf, es]
      | some l =>
        rw [hst] at es
        have h2 := steps_two hst
        have hpr := lproc_ok c pp l b (some (.int (at_ : Nat))) (some (.lst (l.map encP))) none none hk (by omega)
        simp only [encL, encS] at es
        simp only [List.map_cons, List.map_nil] at hpr
        have goal2 : turnL (loopL (gN 3) b_law_least_2 [3, 4, 5, 6] (rg70 (at_ + 1) m)) [3, 4, 5, 6] (loopL (gT [gN 5, gN 6]) b_law_least_1 [3, 4, 5, 6] (l.map encP) [some (codeA c), some (.ref 0), some (.ref 1), some (.int (at_ : Nat)), some (.lst (l.map encP)), none, none] (encL b)) =
            (match (match proc pp l b with
              | .on b' => wrun c n b' (at_ + 1)
              | .apart b' u v => .apart b' u v : Res) with
            | .done b' _ => .nx [some (codeA c), some (.ref 0), some (.ref 1), none, none, none, none] (encL b')
            | .stuck b' _ => .rt .non (encL b')
            | .apart b' _ _ => .rt .non (encL b')
            | .out => .bad) := by
          rw [hpr]
          cases hpc : proc pp l b with
          | on b' =>
            obtain ⟨k1, k2, k3, k4, k5⟩ := proc_facts pp l b b' (k + 1) hpc hk (fun p s h => by have := hs p s h; omega) (fun q hq => by have := steps_small hst q hq; have := hs place s hf; omega)
            have := ih n b' (at_ + 1) (k + 1) none none none none (by omega) (by omega) k1 (proc_inq pp l b b' hpc hk hi (steps_in hc hst)) k2 (by omega)
            simp only [turnL_nx]
            exact this
          | apart b' u v => rfl
        simp only [encL] at goal2
        have e9 : loopL (gN 3) b_law_least_2 [3, 4, 5, 6] (.int (at_ : Nat) :: rg70 (at_ + 1) m) [some (codeA c), some (.ref 0), some (.ref 1), e3, e4, e5, e6] (encL b) =
          turnL (loopL (gN 3) b_law_least_2 [3, 4, 5, 6] (rg70 (at_ + 1) m)) [3, 4, 5, 6] (b_law_least_2 [some (codeA c), some (.ref 0), some (.ref 1), some (.int (at_ : Nat)), none, none, none] (encL b)) := by
          generalize rg70 (at_ + 1) m = rest
          simp
        rw [e9]
        generalize loopL (gN 3) b_law_least_2 [3, 4, 5, 6] (rg70 (at_ + 1) m) = Wl at goal2 ⊢
        simp [encL, hl, b_law_least_2, ea, hf, es]
        exact goal2
theorem least_ok (c : List Ins) (hc : WFc c) (S : Store) : m_law_least [codeA c] S = match wrun c 100 b0 0 with
    | .done b _ => .ok (.dic (fA b.f)) S
    | .stuck _ _ => .ok .non S
    | .apart _ _ _ => .ok .non S
    | .out => .bad := by
  unfold m_law_least
  rw [pureF_ap _ _ (by simp)]
  have hw := least_loop c hc 70 100 b0 0 0 none none none none (by decide) (by decide) keys0 ⟨by simp [b0], fun x hx => by simp [b0] at hx; omega⟩ small0 (by decide)
  have er : rg70 0 70 = (List.range 70).map fun k => A.int (0 + (k : Nat)) := by simp [rg70, List.range_eq_range']
  have e1 : itemsR1 (.int 70) = pur (rg70 0 70) := by rw [er]; rfl
  have eb : encL b0 = [.dic (fA b0.f), .lst [.int 0]] := rfl
  have e2 : ∀ S, opSet (.ref 0) (.int 0) (.tup []) (O.dic [] :: S) = .ok .non (O.dic (fA b0.f) :: S) := fun S => rfl
  rw [eb] at hw
  simp [b_law_least, b_law_least_6, b_law_least_5, b_law_least_4, e1, e2, hw]
  cases wrun c 100 b0 0 with
  | done b a =>
    simp [b_law_least_3, encL]
    exact pu_dic _ _ _
  | stuck b p => simp
  | apart b u v => simp
  | out => simp
end K02
end
section
set_option Elab.async false
set_option linter.all false
set_option maxRecDepth 100000
set_option maxHeartbeats 4000000
set_option autoImplicit false
/-! k02: paths. -/
namespace K02
open PySem PySem.Spec PyProof.Rows L2 VM
def alongGo (c : List Ins) : Int → List Int → List Ty → Option (List Ty)
  | _, [], s => some s
  | cur, y :: r, s => match stepsT c cur s with
    | none => none
    | some l => match l.filter fun q => decide (q.1 = y) with
      | [] => none
      | q :: _ => alongGo c y r q.2
def alongT (c : List Ins) : List Int → Option (List Ty)
  | [] => none
  | x :: r => if x = 0 then alongGo c x r [] else none
abbrev pt (p : List Int) : A := .tup (p.map .int)
theorem pt_at {p : List Int} {k : Nat} {x : Int} (h : p[k]? = some x) (S : Store) : opIx (pt p) (.int (k : Int)) S = .ok (.int x) S := by
  refine opIx_tup ?_
  rw [VM.atI_nat, List.getElem?_map, h]; rfl
theorem pt_at1 {p : List Int} {k : Nat} {x : Int} (h : p[k + 1]? = some x) (S : Store) : opIx (pt p) (.int ((k : Int) + 1)) S = .ok (.int x) S := pt_at (k := k + 1) h S
theorem filter_len {l : Fd} {y : Int} {q : Int × List Ty} {r : Fd} (h : (l.filter fun q => decide (q.1 = y)) = q :: r) : q ∈ l := by
  have : q ∈ l.filter fun q => decide (q.1 = y) := by rw [h]; exact List.mem_cons_self
  exact (List.mem_filter.mp this).1
abbrev rgN (k m : Nat) : List A := (List.range' k m).map fun j => .int (j : Nat)
theorem rgN_succ (k m : Nat) : rgN k (m + 1) = .int (k : Nat) :: rgN (k + 1) m := by simp [rgN, List.range'_succ]
theorem along_loop (c : List Ins) (path : List Int) : ∀ (m k : Nat) (s : List Ty) (cur : Int) (e4 e5 e6 e7 e8 : Option A), path.length = k + m + 1 → path[k]? = some cur → s.length + m ≤ 1000 →
    loopL (gN 4) b_stack_along_4 [4, 5, 6, 7, 8] (rgN k m) [some (partA c), some (fnA c), some (pt path), some (.tup (tys s)), e4, e5, e6, e7, e8] [] =
      match alongGo c cur (path.drop (k + 1)) s with
      | some s' => .nx [some (partA c), some (fnA c), some (pt path), some (.tup (tys s')), none, none, none, none, none] []
      | none => .rt .non []
  | 0, k, s, cur, e4, e5, e6, e7, e8, hl, hk, hs => by
    rw [List.drop_of_length_le (by omega), show rgN k 0 = [] from rfl]
    simp [alongGo]
  | m + 1, k, s, cur, e4, e5, e6, e7, e8, hl, hk, hs => by
    obtain ⟨y, hy⟩ : ∃ y, path[k + 1]? = some y := ⟨_, List.getElem?_eq_getElem (by omega)⟩
    have hd : path.drop (k + 1) = y :: path.drop (k + 2) := by
      rw [List.drop_eq_getElem_cons (by omega)]
      have := (List.getElem?_eq_some_iff.mp hy).2
      rw [this]
    rw [hd, rgN_succ]
    unfold alongGo
    have ih := along_loop c path m (k + 1)
    have es := steps_ok c cur s [] (by omega)
    have ea := pt_at hk []
    have ey := fun S => pt_at1 hy S
    generalize rgN (k + 1) m = rest at ih ⊢
    cases hst : stepsT c cur s with
    | none =>
      rw [hst] at es
      simp [b_stack_along_4, b_stack_along_3, ea, es, encS]
    | some l =>
      rw [hst] at es
      have h2 := steps_two hst
      have hc : ∀ e0 : Slots, e0 = [some (partA c), some (fnA c), some (pt path), some (.tup (tys s)), some (.int (k : Nat)), some (.lst (l.map encP)), none, none, none] →
          lcL (gT [gN 7, gN 8]) (tVal (c2 opEq (cVar 7) (c2 opIx (cVar 2) (c2 opAdd (cVar 4) (cC (.int 1)))))) (cVar 8) e0 (l.map encP) [] [] = .ok ((l.filter fun q => decide (q.1 = y)).map fun q => .tup (tys q.2)) [] := by
        intro e0 he
        have := lcL_pure (g := gT [gN 7, gN 8]) (t := tVal (c2 opEq (cVar 7) (c2 opIx (cVar 2) (c2 opAdd (cVar 4) (cC (.int 1)))))) (el := cVar 8) (e0 := e0) (S := []) encP (fun q => decide (q.1 = y)) (fun q => .tup (tys q.2)) l [] (fun x hx => by
          subst he
          by_cases hxy : x.1 = y
          · simp [turnC, encP, ey, hxy]
          · simp [turnC, encP, ey, hxy]) (by simp; omega)
        simpa using this
      have hc' := hc _ rfl
      dsimp only
      cases hfl : l.filter fun q => decide (q.1 = y) with
      | nil =>
        rw [hfl] at hc'
        simp [b_stack_along_4, b_stack_along_3, b_stack_along_2, b_stack_along_1, ea, es, encS, hc']
      | cons q r =>
        rw [hfl] at hc'
        have hql := steps_small hst q (filter_len hfl)
        have h0 : ¬ ((r.length : Int) + 1 = 0) := by omega
        have := ih q.2 y (some (.int (k : Nat))) (some (.lst (l.map encP))) (some (.lst ((q :: r).map fun q => A.tup (tys q.2)))) none none (by omega) hy (by omega)
        simp only
        rw [← this]
        simp [b_stack_along_4, b_stack_along_3, b_stack_along_2, b_stack_along_1, b_stack_along_0, ea, es, encS, hc', h0]
theorem okRg_nat (n : Nat) (h : n ≤ 1000) : okRg (n : Int) = true := by
  unfold okRg
  simp
  omega
theorem items_rg (n : Nat) (h : n ≤ 1000) : itemsR1 (.int (n : Nat)) = pur (rgN 0 n) := by
  unfold itemsR1
  simp only
  rw [okRg_nat n h]
  simp [rgN, List.range_eq_range']
theorem along_a (c : List Ins) (r : List Int) : b_stack_along [some (partA c), some (fnA c), some (pt (0 :: r)), none, none, none, none, none, none] [] = b_stack_along_7 [some (partA c), some (fnA c), some (pt (0 :: r)), none, none, none, none, none, none] [] := by
  have h0 : ¬ ((r.length : Int) + 1 = 0) := by omega
  have e0 : opIx (pt (0 :: r)) (.int 0) [] = .ok (.int 0) [] := pt_at (k := 0) (by simp) []
  simp [b_stack_along, h0, e0]
theorem along_b (c : List Ins) (p : A) : b_stack_along_7 [some (partA c), some (fnA c), some p, none, none, none, none, none, none] [] = b_stack_along_6 [some (partA c), some (fnA c), some p, some (.tup []), none, none, none, none, none] [] := by
  simp [b_stack_along_7]
theorem along_c (c : List Ins) (r : List Int) (rest : List A) (er : itemsR1 (.int (r.length : Nat)) = pur rest) : b_stack_along_6 [some (partA c), some (fnA c), some (pt (0 :: r)), some (.tup []), none, none, none, none, none] [] =
    (loopL (gN 4) b_stack_along_4 [4, 5, 6, 7, 8] rest [some (partA c), some (fnA c), some (pt (0 :: r)), some (.tup []), none, none, none, none, none] []).th b_stack_along_5 := by
  have hs : c2 opSub (cApp opLen (cCons (cVar 2) cNil)) (cC (.int 1)) [some (partA c), some (fnA c), some (pt (0 :: r)), some (.tup []), none, none, none, none, none] [] = .ok (.int (r.length : Nat)) [] := by simp
  unfold b_stack_along_6
  rw [sSeq_ap, sFor_ap, cItR1_ap, hs, rb_ok, er, pur_ap, rs_ok]
theorem along_ok (c : List Ins) (path : List Int) (S : Store) (hl : path.length ≤ 900) : m_stack_along [partA c, fnA c, pt path] S = .ok (encO (alongT c path)) S := by
  unfold m_stack_along
  rw [pureF_ap _ _ (by simp [closed_ints])]
  cases path with
  | nil => simp [b_stack_along, alongT, encO]
  | cons x r =>
    by_cases hx : x = 0
    · subst hx
      have hp : (0 :: r : List Int).length = 0 + r.length + 1 := by simp
      have hr : r.length ≤ 899 := by simp at hl; omega
      have this := along_loop c (0 :: r) r.length 0 [] 0 none none none none none hp (by simp) (by simp; omega)
      have ed : (0 :: r : List Int).drop (0 + 1) = r := by simp
      rw [ed] at this
      have hc := along_c c r (rgN 0 r.length) (items_rg _ (by omega))
      rw [show A.tup [] = A.tup (tys []) from rfl, this] at hc
      have ha := (along_a c r).trans ((along_b c (pt (0 :: r))).trans hc)
      rw [runBody_ap]
      have e1 : ([partA c, fnA c, pt (0 :: r)].map some ++ List.replicate (9 - [partA c, fnA c, pt (0 :: r)].length) none : Slots) = [some (partA c), some (fnA c), some (pt (0 :: r)), none, none, none, none, none, none] := rfl
      rw [e1, ha, show alongT c (0 :: r) = alongGo c 0 r [] by simp [alongT]]
      cases alongGo c 0 r [] with
      | none => simp [encO]
      | some s =>
        simp [b_stack_along_5, encO]
        exact pu_ok (by simp)
    · have e0 : opIx (pt (x :: r)) (.int 0) [] = .ok (.int x) [] := pt_at (k := 0) (by simp) []
      have h0 : ¬ ((r.length : Int) + 1 = 0) := by omega
      simp [b_stack_along, h0, e0, hx, alongT, encO]
theorem items_rg2 (n : Nat) (h : n ≤ 1000) : itemsR2 (.int 1) (.int ((n + 1 : Nat) : Int)) = pur (rgN 1 n) := by
  have h1 : okRg ((n + 1 : Nat) : Int) = true := by
    unfold okRg
    simp
    omega
  have h2 : okRg 1 = true := by
    unfold okRg
    simp
  unfold itemsR2
  simp only
  rw [h1, h2]
  have e : (((n + 1 : Nat) : Int) - 1).toNat = n := by omega
  rw [e]
  have e2 : (List.range n).map (fun k => A.int (1 + (k : Nat))) = rgN 1 n := by
    unfold rgN
    rw [List.range'_eq_map_range, List.map_map]
    refine List.map_congr_left fun k _ => ?_
    show A.int (1 + (k : Nat)) = A.int ((1 + k : Nat) : Int)
    rfl
  rw [e2]; rfl
theorem law_along_loop (c : List Ins) (path : List Int) : ∀ (m k : Nat) (s : List Ty) (cur : Int) (e3 e4 e5 e6 e7 : Option A), path.length = k + m + 1 → path[k]? = some cur → s.length + m ≤ 1000 →
    loopL (gN 3) b_law_along_3 [3, 4, 5, 6, 7] (rgN (k + 1) m) [some (codeA c), some (pt path), some (.tup (tys s)), e3, e4, e5, e6, e7] [] =
      match alongGo c cur (path.drop (k + 1)) s with
      | some s' => .nx [some (codeA c), some (pt path), some (.tup (tys s')), none, none, none, none, none] []
      | none => .rt .non []
  | 0, k, s, cur, e3, e4, e5, e6, e7, hl, hk, hs => by
    rw [List.drop_of_length_le (by omega), show rgN (k + 1) 0 = [] from rfl]
    simp [alongGo]
  | m + 1, k, s, cur, e3, e4, e5, e6, e7, hl, hk, hs => by
    obtain ⟨y, hy⟩ : ∃ y, path[k + 1]? = some y := ⟨_, List.getElem?_eq_getElem (by omega)⟩
    have hd : path.drop (k + 1) = y :: path.drop (k + 2) := by
      rw [List.drop_eq_getElem_cons (by omega)]
      have := (List.getElem?_eq_some_iff.mp hy).2
      rw [this]
    rw [hd, rgN_succ]
    unfold alongGo
    have ih := law_along_loop c path m (k + 1)
    have es := law_steps_ok c cur s [] (by omega)
    have ea : opIx (pt path) (.int (((k + 1 : Nat) : Int) - 1)) [] = .ok (.int cur) [] := by
      rw [show (((k + 1 : Nat) : Int) - 1) = (k : Int) by omega]; exact pt_at hk []
    have ey := fun S => pt_at (k := k + 1) hy S
    generalize rgN (k + 1 + 1) m = rest at ih ⊢
    generalize ((k + 1 : Nat) : Int) = j at ea ey ⊢
    cases hst : stepsT c cur s with
    | none =>
      rw [hst] at es
      simp [b_law_along_3, b_law_along_2, b_law_along_1, ea, es, encS]
    | some l =>
      rw [hst] at es
      have h2 := steps_two hst
      have hc : ∀ e0 : Slots, e0 = [some (codeA c), some (pt path), some (.tup (tys s)), some (.int j), some (.lst (l.map encP)), none, none, none] →
          lcL (gT [gN 6, gN 7]) (tVal (c2 opEq (cVar 6) (c2 opIx (cVar 1) (cVar 3)))) (cVar 7) e0 (l.map encP) [] [] = .ok ((l.filter fun q => decide (q.1 = y)).map fun q => .tup (tys q.2)) [] := by
        intro e0 he
        have := lcL_pure (g := gT [gN 6, gN 7]) (t := tVal (c2 opEq (cVar 6) (c2 opIx (cVar 1) (cVar 3)))) (el := cVar 7) (e0 := e0) (S := []) encP (fun q => decide (q.1 = y)) (fun q => .tup (tys q.2)) l [] (fun x hx => by
          subst he
          by_cases hxy : x.1 = y
          · simp [turnC, encP, ey, hxy]
          · simp [turnC, encP, ey, hxy]) (by simp; omega)
        simpa using this
      have hc' := hc _ rfl
      dsimp only
      cases hfl : l.filter fun q => decide (q.1 = y) with
      | nil =>
        rw [hfl] at hc'
        simp [b_law_along_3, b_law_along_2, b_law_along_1, ea, es, encS, hc']
      | cons q r =>
        rw [hfl] at hc'
        have hql := steps_small hst q (filter_len hfl)
        have h0 : ¬ ((r.length : Int) + 1 = 0) := by omega
        have := ih q.2 y (some (.int j)) (some (.lst (l.map encP))) (some (.lst ((q :: r).map fun q => A.tup (tys q.2)))) none none (by omega) hy (by omega)
        simp only
        rw [← this]
        simp [b_law_along_3, b_law_along_2, b_law_along_1, b_law_along_0, ea, es, encS, hc', h0]
theorem law_along_c (c : List Ins) (r : List Int) (rest : List A) (er : itemsR2 (.int 1) (.int ((r.length + 1 : Nat) : Int)) = pur rest) : b_law_along_5 [some (codeA c), some (pt (0 :: r)), some (.tup []), none, none, none, none, none] [] =
    (loopL (gN 3) b_law_along_3 [3, 4, 5, 6, 7] rest [some (codeA c), some (pt (0 :: r)), some (.tup []), none, none, none, none, none] []).th b_law_along_4 := by
  have hs : cApp opLen (cCons (cVar 1) cNil) [some (codeA c), some (pt (0 :: r)), some (.tup []), none, none, none, none, none] [] = .ok (.int ((r.length + 1 : Nat) : Int)) [] := by
    simp only [cApp_ap, cCons_ap, cVar_ap, List.getElem?_cons_succ, List.getElem?_cons_zero, look_some, rb_ok, bnd_ap, cNil_ap, opLen_tup, List.length_map, List.length_cons]
  unfold b_law_along_5
  rw [sSeq_ap, sFor_ap, cItR2_ap, cC_ap, rb_ok, bnd_ap, hs, rb_ok, er, pur_ap, rs_ok]
theorem law_along_a (c : List Ins) (r : List Int) : b_law_along [some (codeA c), some (pt (0 :: r)), none, none, none, none, none, none] [] = b_law_along_6 [some (codeA c), some (pt (0 :: r)), none, none, none, none, none, none] [] := by
  have h0 : ¬ ((r.length : Int) + 1 = 0) := by omega
  have e0 : opIx (pt (0 :: r)) (.int 0) [] = .ok (.int 0) [] := pt_at (k := 0) (by simp) []
  have e1 : opLen [pt (0 :: r)] [] = .ok (.int ((r.length : Int) + 1)) [] := by simp
  generalize pt (0 :: r) = p at e0 e1 ⊢
  generalize codeA c = q
  have ht : VM.tOr (tVal (c2 opEq (cApp opLen (cCons (cVar 1) cNil)) (cC (.int 0)))) (tVal (c2 opNe (c2 opIx (cVar 1) (cC (.int 0))) (cC (.int 0)))) [some q, some p, none, none, none, none, none, none] [] = .ok false [] := by
    simp [e0, e1, h0]
  unfold b_law_along
  rw [sSeq_ap, sIf_ap, ht, rs_ok, if_neg Bool.false_ne_true, sNil_ap, th_nx]
theorem law_along_b (c : List Ins) (p : A) : b_law_along_6 [some (codeA c), some p, none, none, none, none, none, none] [] = b_law_along_5 [some (codeA c), some p, some (.tup []), none, none, none, none, none] [] := by
  simp [b_law_along_6]
theorem law_along_ok (c : List Ins) (path : List Int) (S : Store) (hl : path.length ≤ 900) : m_law_along [codeA c, pt path] S = .ok (encO (alongT c path)) S := by
  unfold m_law_along
  rw [pureF_ap _ _ (by simp [closed_ints])]
  cases path with
  | nil => simp [b_law_along, alongT, encO]
  | cons x r =>
    by_cases hx : x = 0
    · subst hx
      have hp : (0 :: r : List Int).length = 0 + r.length + 1 := by simp
      have hr : r.length ≤ 899 := by simp at hl; omega
      have this := law_along_loop c (0 :: r) r.length 0 [] 0 none none none none none hp (by simp) (by simp; omega)
      rw [show 0 + 1 = 1 from rfl] at this
      have ed : (0 :: r : List Int).drop 1 = r := by simp
      rw [ed] at this
      have hc := law_along_c c r (rgN 1 r.length) (items_rg2 _ (by omega))
      rw [show A.tup [] = A.tup (tys []) from rfl, this] at hc
      have ha := (law_along_a c r).trans ((law_along_b c (pt (0 :: r))).trans hc)
      rw [runBody_ap]
      have e1 : ([codeA c, pt (0 :: r)].map some ++ List.replicate (8 - [codeA c, pt (0 :: r)].length) none : Slots) = [some (codeA c), some (pt (0 :: r)), none, none, none, none, none, none] := rfl
      rw [e1, ha, show alongT c (0 :: r) = alongGo c 0 r [] by simp [alongT]]
      cases alongGo c 0 r [] with
      | none => simp [encO]
      | some s =>
        simp [b_law_along_4, encO]
        exact pu_ok (by simp)
    · have e0 : opIx (pt (x :: r)) (.int 0) [] = .ok (.int x) [] := pt_at (k := 0) (by simp) []
      have h0 : ¬ ((r.length : Int) + 1 = 0) := by omega
      simp [b_law_along, h0, e0, hx, alongT, encO]
end K02
end
section
set_option Elab.async false
set_option linter.all false
set_option maxRecDepth 100000
set_option maxHeartbeats 4000000
set_option autoImplicit false
/-! k02: fault papers. -/
namespace K02
open PySem PySem.Spec PyProof.Rows L2 VM
theorem alongGo_len (c : List Ins) : ∀ (r : List Int) (cur : Int) (s s' : List Ty), alongGo c cur r s = some s' → s'.length ≤ s.length + r.length
  | [], cur, s, s', h => by cases h; simp
  | y :: r, cur, s, s', h => by
    unfold alongGo at h
    cases hst : stepsT c cur s with
    | none => rw [hst] at h; cases h
    | some l =>
      rw [hst] at h
      dsimp only at h
      cases hf : l.filter fun q => decide (q.1 = y) with
      | nil => rw [hf] at h; cases h
      | cons q t =>
        rw [hf] at h
        have := alongGo_len c r y q.2 s' h
        have := steps_small hst q (filter_len hf)
        simp only [List.length_cons]
        omega
theorem alongT_len {c : List Ins} {p : List Int} {s : List Ty} (h : alongT c p = some s) : s.length ≤ p.length ∧ p ≠ [] := by
  cases p with
  | nil => cases h
  | cons x r =>
    simp only [alongT] at h
    split at h
    · have := alongGo_len c r x [] s h
      simp at this ⊢; omega
    · cases h
theorem pt_last (p : List Int) (x : Int) (S : Store) : opIx (pt (p ++ [x])) (.int (-1)) S = .ok (.int x) S := by
  refine opIx_tup ?_
  have := atI_neg ((p ++ [x]).map A.int) 0 (by simp)
  rw [show (-1 : Int) = -(((0 : Nat) : Int) + 1) from rfl, this]
  simp
/-- the verdict on a fault paper -/
def faultT (c : List Ins) (w : Str) (p : List Int) (q : Option (List Int)) : Bool := match alongT c p with
  | none => false
  | some s => if w = "stuck" then (match q with
      | none => (stepsT c (p.getLastD 0) s).isNone
      | some _ => false)
    else if w = "apart" then (match q with
      | none => false
      | some q => (match alongT c q with
        | none => false
        | some o => decide (p.getLastD 0 = q.getLastD 0) && !decide (s = o)))
    else false
def paperA (w : Str) (p : List Int) : Option (List Int) → A
  | none => .tup [.str w, pt p]
  | some q => .tup [.str w, pt p, pt q]
@[simp] theorem closed_pt (p : List Int) : closed (pt p) = true := closed_ints p
@[simp] theorem closed_paper (w : Str) (p : List Int) (q : Option (List Int)) : closed (paperA w p q) = true := by cases q <;> simp [paperA, closed_ints]
theorem isNon_encS (o : Option Fd) : isNon (encS o) = o.isNone := by cases o <;> rfl
theorem fault_ok (c : List Ins) (w : Str) (p : List Int) (q : Option (List Int)) (S : Store) (hp : p.length ≤ 900) (hq : ∀ x, q = some x → x.length ≤ 900) : m_shows_fault [partA c, fnA c, paperA w p q] S = .ok (.bl (faultT c w p q)) S := by
  unfold m_shows_fault
  rw [pureF_ap _ _ (by simp)]
  have ea := along_ok c p [] hp
  unfold faultT
  have cp := closed_part c
  cases h : alongT c p with
  | none =>
    rw [h] at ea
    generalize partA c = P at ea cp ⊢
    generalize fnA c = F at ea ⊢
    cases q <;> simp [b_shows_fault, b_shows_fault_4, paperA, ea, encO]
  | some s =>
    rw [h] at ea
    obtain ⟨hl, hn⟩ := alongT_len h
    obtain ⟨r, x, rfl⟩ : ∃ r x, p = r ++ [x] := (snoc_cases p).resolve_left hn
    have el := pt_last r x
    have es := steps_ok c x s [] (by omega)
    have en := isNon_encS (stepsT c x s)
    have gl : (r ++ [x]).getLastD 0 = x := by simp
    rw [gl]
    cases q with
    | none =>
      show ((runBody 5 b_shows_fault [partA c, fnA c, .tup [.str w, pt (r ++ [x])]] []).pu S) = _
      generalize partA c = P at ea es ⊢
      generalize fnA c = F at ea es ⊢
      generalize pt (r ++ [x]) = PP at ea el ⊢
      by_cases hw : w = "stuck"
      · simp [b_shows_fault, b_shows_fault_4, b_shows_fault_3, ea, encO, hw, el, es, en]
      · by_cases hw2 : w = "apart"
        · simp [b_shows_fault, b_shows_fault_4, b_shows_fault_3, b_shows_fault_2, ea, encO, hw2, el, es, en]
        · simp [b_shows_fault, b_shows_fault_4, b_shows_fault_3, b_shows_fault_2, ea, encO, hw, hw2, el, es, en]
    | some q =>
      have eb := along_ok c q [] (hq q rfl)
      show ((runBody 5 b_shows_fault [partA c, fnA c, .tup [.str w, pt (r ++ [x]), pt q]] []).pu S) = _
      by_cases hw : w = "stuck"
      · generalize partA c = P at ea es ⊢
        generalize fnA c = F at ea es ⊢
        generalize pt (r ++ [x]) = PP at ea el ⊢
        generalize pt q = QQ
        simp [b_shows_fault, b_shows_fault_4, b_shows_fault_3, ea, encO, hw]
      · by_cases hw2 : w = "apart"
        · cases h2 : alongT c q with
          | none =>
            rw [h2] at eb
            generalize partA c = P at ea eb ⊢
            generalize fnA c = F at ea eb ⊢
            generalize pt (r ++ [x]) = PP at ea el ⊢
            generalize pt q = QQ at eb ⊢
            simp [b_shows_fault, b_shows_fault_4, b_shows_fault_3, b_shows_fault_2, b_shows_fault_1, b_shows_fault_0, ea, eb, encO, hw2, h2]
          | some o =>
            rw [h2] at eb
            obtain ⟨_, hn2⟩ := alongT_len h2
            obtain ⟨r2, x2, rfl⟩ : ∃ r x, q = r ++ [x] := (snoc_cases q).resolve_left hn2
            have el2 := pt_last r2 x2
            have e3 := opNe_tup s o
            generalize partA c = P at ea eb ⊢
            generalize fnA c = F at ea eb ⊢
            generalize pt (r ++ [x]) = PP at ea el ⊢
            generalize pt (r2 ++ [x2]) = QQ at eb el2 ⊢
            by_cases hx : x = x2
            · simp [b_shows_fault, b_shows_fault_4, b_shows_fault_3, b_shows_fault_2, b_shows_fault_1, b_shows_fault_0, ea, eb, encO, hw2, h2, el, el2, hx]
            · simp [b_shows_fault, b_shows_fault_4, b_shows_fault_3, b_shows_fault_2, b_shows_fault_1, b_shows_fault_0, ea, eb, encO, hw2, h2, el, el2, hx]
        · generalize partA c = P at ea es ⊢
          generalize fnA c = F at ea es ⊢
          generalize pt (r ++ [x]) = PP at ea el ⊢
          generalize pt q = QQ
          simp [b_shows_fault, b_shows_fault_4, b_shows_fault_3, b_shows_fault_2, ea, encO, hw, hw2]
theorem law_fault_ok (c : List Ins) (w : Str) (p : List Int) (q : Option (List Int)) (S : Store) (hp : p.length ≤ 900) (hq : ∀ x, q = some x → x.length ≤ 900) : m_law_fault [codeA c, paperA w p q] S = .ok (.bl (faultT c w p q)) S := by
  unfold m_law_fault
  rw [pureF_ap _ _ (by simp)]
  have ea := law_along_ok c p [] hp
  unfold faultT
  have cp := closed_code c
  cases h : alongT c p with
  | none =>
    rw [h] at ea
    generalize codeA c = P at ea cp ⊢
    cases q <;> simp [b_law_fault, b_law_fault_4, paperA, ea, encO]
  | some s =>
    rw [h] at ea
    obtain ⟨hl, hn⟩ := alongT_len h
    obtain ⟨r, x, rfl⟩ : ∃ r x, p = r ++ [x] := (snoc_cases p).resolve_left hn
    have el := pt_last r x
    have es := law_steps_ok c x s [] (by omega)
    have en := isNon_encS (stepsT c x s)
    have gl : (r ++ [x]).getLastD 0 = x := by simp
    rw [gl]
    cases q with
    | none =>
      show ((runBody 4 b_law_fault [codeA c, .tup [.str w, pt (r ++ [x])]] []).pu S) = _
      generalize codeA c = P at ea es ⊢
      generalize pt (r ++ [x]) = PP at ea el ⊢
      by_cases hw : w = "stuck"
      · simp [b_law_fault, b_law_fault_4, b_law_fault_3, ea, encO, hw, el, es, en]
      · by_cases hw2 : w = "apart"
        · simp [b_law_fault, b_law_fault_4, b_law_fault_3, b_law_fault_2, ea, encO, hw2, el, es, en]
        · simp [b_law_fault, b_law_fault_4, b_law_fault_3, b_law_fault_2, ea, encO, hw, hw2, el, es, en]
    | some q =>
      have eb := law_along_ok c q [] (hq q rfl)
      show ((runBody 4 b_law_fault [codeA c, .tup [.str w, pt (r ++ [x]), pt q]] []).pu S) = _
      by_cases hw : w = "stuck"
      · generalize codeA c = P at ea es ⊢
        generalize pt (r ++ [x]) = PP at ea el ⊢
        generalize pt q = QQ
        simp [b_law_fault, b_law_fault_4, b_law_fault_3, ea, encO, hw]
      · by_cases hw2 : w = "apart"
        · cases h2 : alongT c q with
          | none =>
            rw [h2] at eb
            generalize codeA c = P at ea eb ⊢
            generalize pt (r ++ [x]) = PP at ea el ⊢
            generalize pt q = QQ at eb ⊢
            simp [b_law_fault, b_law_fault_4, b_law_fault_3, b_law_fault_2, b_law_fault_1, b_law_fault_0, ea, eb, encO, hw2, h2]
          | some o =>
            rw [h2] at eb
            obtain ⟨_, hn2⟩ := alongT_len h2
            obtain ⟨r2, x2, rfl⟩ : ∃ r x, q = r ++ [x] := (snoc_cases q).resolve_left hn2
            have el2 := pt_last r2 x2
            have e3 : (s = o) = (o = s) := propext ⟨fun h => h.symm, fun h => h.symm⟩
            generalize codeA c = P at ea eb ⊢
            generalize pt (r ++ [x]) = PP at ea el ⊢
            generalize pt (r2 ++ [x2]) = QQ at eb el2 ⊢
            by_cases hx : x = x2
            · simp [b_law_fault, b_law_fault_4, b_law_fault_3, b_law_fault_2, b_law_fault_1, b_law_fault_0, ea, eb, encO, hw2, h2, el, el2, hx, e3]
            · simp [b_law_fault, b_law_fault_4, b_law_fault_3, b_law_fault_2, b_law_fault_1, b_law_fault_0, ea, eb, encO, hw2, h2, el, el2, hx, e3]
        · generalize codeA c = P at ea es ⊢
          generalize pt (r ++ [x]) = PP at ea el ⊢
          generalize pt q = QQ
          simp [b_law_fault, b_law_fault_4, b_law_fault_3, b_law_fault_2, ea, encO, hw, hw2]
end K02
end
section
set_option Elab.async false
set_option linter.all false
set_option maxRecDepth 100000
set_option maxHeartbeats 4000000
set_option autoImplicit false
/-! k02: maps. -/
namespace K02
open PySem PySem.Spec PyProof.Rows L2 VM
/-- each step leads to what the map tells -/
def fitsT (d : Fd) (l : Fd) : Bool := l.all fun q => decide (look2 d q.1 = some q.2)
def rowT (c : List Ins) (d : Fd) (p : Int) (s : List Ty) : Bool := match stepsT c p s with
  | none => false
  | some l => fitsT d l
/-- the law's inner loop -/
theorem law_map_in (c : List Ins) (d : Fd) : ∀ (l : Fd) (e2 e3 e4 e5 : Option A),
    loopL (gT ([4, 5].map gN)) b_law_map_0 [2, 3, 4, 5] (l.map encP) [some (codeA c), some (.dic (fA d)), e2, e3, e4, e5] [] =
      if fitsT d l then .nx [some (codeA c), some (.dic (fA d)), none, none, none, none] [] else .rt (.bl false) []
  | [], e2, e3, e4, e5 => by simp [fitsT]
  | (p, s) :: r, e2, e3, e4, e5 => by
    have ih := law_map_in c d r none none (some (.int p)) (some (.tup (tys s)))
    have hf : fitsT d ((p, s) :: r) = (decide (look2 d p = some s) && fitsT d r) := by simp [fitsT]
    rw [hf]
    cases h : look2 d p with
    | none => simp [encP, b_law_map_0, h]
    | some s' =>
      by_cases e : s' = s
      · subst e
        simp only [decide_true, Bool.true_and]
        rw [← ih]
        simp [encP, b_law_map_0, h]
      · simp [encP, b_law_map_0, h, e]
theorem ne_non (s : List Ty) (S : Store) : opNe .non (.tup (tys s)) S = .ok (.bl true) S := by
  refine opNe_of (b := false) ?_
  show (match toPy .non, toPy (.tup (tys s)) with | some d, some e => if SeqAt.shaped d && SeqAt.shaped e then some (PyData.eqv d e) else none | _, _ => none) = _
  have h : toPy (.tup (tys s)) = some (.tuple (typ s)) := by show (toPyL (tys s)).map _ = _; rw [toPyL_tys]; rfl
  rw [h]
  have h0 : SeqAt.shaped PyData.none = true := by decide
  simp only [toPy, shaped_tup, h0, Bool.and_self, if_true]
  rfl
theorem shows_in (d l : Fd) (hl : l.length ≤ 100) (e0 : Slots) (h2 : e0[2]? = some (some (.dic (fA d)))) (hn : e0.length = 8) :
    lcL (gT ([6, 7].map gN)) (tVal (c2 opNe (cGet1 (cVar 2) (cVar 6)) (cVar 7))) (cC (.int 1)) e0 (l.map encP) [] [] = .ok ((l.filter fun q => !decide (look2 d q.1 = some q.2)).map fun _ => .int 1) [] := by
  have := lcL_pure (g := gT ([6, 7].map gN)) (t := tVal (c2 opNe (cGet1 (cVar 2) (cVar 6)) (cVar 7))) (el := cC (.int 1)) (e0 := e0) (S := []) encP (fun q => !decide (look2 d q.1 = some q.2)) (fun _ => .int 1) l [] (fun x hx => by
    have a2 : ((e0.set 6 (some (.int x.1))).set 7 (some (.tup (tys x.2))))[2]? = some (some (.dic (fA d))) := by simp [h2]
    have a6 : ((e0.set 6 (some (.int x.1))).set 7 (some (.tup (tys x.2))))[6]? = some (some (.int x.1)) := by simp [hn]
    have a7 : ((e0.set 6 (some (.int x.1))).set 7 (some (.tup (tys x.2))))[7]? = some (some (.tup (tys x.2))) := by simp [hn]
    cases h : look2 d x.1 with
    | none => simp [turnC, encP, a2, a6, a7, h, ne_non]
    | some s =>
      by_cases e : s = x.2
      · simp [turnC, encP, a2, a6, a7, h, e]
      · simp [turnC, encP, a2, a6, a7, h, e]) (by simp; omega)
  simpa using this
theorem law_map_out (c : List Ins) (d : Fd) : ∀ (l : Fd) (e2 e3 e4 e5 : Option A), (∀ q ∈ l, look2 d q.1 = some q.2 ∧ q.2.length ≤ 1000) →
    loopL (gN 2) b_law_map_3 [2, 3, 4, 5] (l.map fun q => .int q.1) [some (codeA c), some (.dic (fA d)), e2, e3, e4, e5] [] =
      if l.all (fun q => rowT c d q.1 q.2) then .nx [some (codeA c), some (.dic (fA d)), none, none, none, none] [] else .rt (.bl false) []
  | [], e2, e3, e4, e5, _ => by simp
  | (p, s) :: r, e2, e3, e4, e5, h => by
    obtain ⟨h1, h2⟩ := h (p, s) List.mem_cons_self
    have ih := law_map_out c d r
    have hr := fun q hq => h q (List.mem_cons_of_mem _ hq)
    have es := law_steps_ok c p s [] h2
    have h1 : look2 d p = some s := h1
    rw [List.all_cons, List.map_cons]
    show _ = if (rowT c d p s && r.all (fun q => rowT c d q.1 q.2)) then _ else _
    cases hst : stepsT c p s with
    | none =>
      rw [hst] at es
      rw [show rowT c d p s = false by simp [rowT, hst]]
      simp [b_law_map_3, b_law_map_2, h1, es, encS]
    | some l =>
      rw [hst] at es
      have hin := law_map_in c d l (some (.int p)) (some (.lst (l.map encP))) none none
      simp only [List.map_cons, List.map_nil] at hin
      rw [show rowT c d p s = fitsT d l by simp [rowT, hst]]
      have ih2 := ih none none none none hr
      cases hf : fitsT d l with
      | true =>
        rw [hf] at hin
        simp only [Bool.true_and]
        rw [← ih2]
        simp [b_law_map_3, b_law_map_2, b_law_map_1, h1, es, encS, hin]
      | false =>
        rw [hf] at hin
        simp [b_law_map_3, b_law_map_2, b_law_map_1, h1, es, encS, hin]
theorem shows_out (c : List Ins) (d : Fd) : ∀ (l : Fd) (e3 e4 e5 e6 e7 : Option A), (∀ q ∈ l, q.2.length ≤ 1000) →
    loopL (gT ([3, 4].map gN)) b_shows_map_1 [3, 4, 5, 6, 7] (l.map fun q => .tup [.int q.1, .tup (tys q.2)]) [some (partA c), some (fnA c), some (.dic (fA d)), e3, e4, e5, e6, e7] [] =
      if l.all (fun q => rowT c d q.1 q.2) then .nx [some (partA c), some (fnA c), some (.dic (fA d)), none, none, none, none, none] [] else .rt (.bl false) []
  | [], e3, e4, e5, e6, e7, _ => by simp
  | (p, s) :: r, e3, e4, e5, e6, e7, h => by
    have h2 := h (p, s) List.mem_cons_self
    have ih := shows_out c d r
    have hr := fun q hq => h q (List.mem_cons_of_mem _ hq)
    have es := steps_ok c p s [] h2
    rw [List.all_cons, List.map_cons]
    show _ = if (rowT c d p s && r.all (fun q => rowT c d q.1 q.2)) then _ else _
    cases hst : stepsT c p s with
    | none =>
      rw [hst] at es
      rw [show rowT c d p s = false by simp [rowT, hst]]
      simp [b_shows_map_1, b_shows_map_0, es, encS]
    | some l =>
      rw [hst] at es
      rw [show rowT c d p s = fitsT d l by simp [rowT, hst]]
      have hin := shows_in d l (by have := steps_two hst; omega) [some (partA c), some (fnA c), some (.dic (fA d)), some (.int p), some (.tup (tys s)), some (.lst (l.map encP)), none, none] rfl rfl
      simp only [List.map_cons, List.map_nil] at hin
      have ih2 := ih (some (.int p)) (some (.tup (tys s))) (some (.lst (l.map encP))) none none hr
      cases hf : fitsT d l with
      | true =>
        have hnil : (l.filter fun q => !decide (look2 d q.1 = some q.2)) = [] := by
          rw [List.filter_eq_nil_iff]
          intro q hq
          have := List.all_eq_true.mp hf q hq
          simp at this
          simp [this]
        rw [hnil] at hin
        simp only [Bool.true_and]
        rw [← ih2]
        simp [b_shows_map_1, b_shows_map_0, es, encS, hin]
      | false =>
        obtain ⟨q, hq, hne⟩ : ∃ q ∈ l, look2 d q.1 ≠ some q.2 := by
          refine Classical.byContradiction fun z => ?_
          have : fitsT d l = true := List.all_eq_true.mpr fun q hq => decide_eq_true (Classical.byContradiction fun y => z ⟨q, hq, y⟩)
          rw [hf] at this; cases this
        cases hfl : (l.filter fun q => !decide (look2 d q.1 = some q.2)) with
        | nil =>
          have := List.filter_eq_nil_iff.mp hfl q hq
          simp [hne] at this
        | cons a t =>
          rw [hfl] at hin
          have h0 : (0 : Int) < (t.length : Int) + 1 := by omega
          simp [b_shows_map_1, b_shows_map_0, es, encS, hin, h0]
def mapT (c : List Ins) (d : Fd) : Bool := decide (look2 d 0 = some []) && d.all fun q => rowT c d q.1 q.2
theorem law_map_ok (c : List Ins) (d : Fd) (S : Store) (h : ∀ q ∈ d, look2 d q.1 = some q.2 ∧ q.2.length ≤ 1000) : m_law_map [codeA c, .dic (fA d)] S = .ok (.bl (mapT c d)) S := by
  unfold m_law_map
  rw [pureF_ap _ _ (by simp [closed_fA])]
  have hk : (fA d).map (fun q => kA q.1) = d.map fun q => A.int q.1 := by unfold fA; rw [List.map_map]; rfl
  have ho := law_map_out c d d none none none none h
  rw [← hk] at ho
  unfold mapT
  cases h0 : look2 d 0 with
  | none => simp [b_law_map, h0]
  | some s =>
    have en : opNe (.tup (tys s)) (.tup []) [] = .ok (.bl (!decide (s = []))) [] := opNe_tup s [] []
    by_cases hs : s = []
    · subst hs
      cases ha : d.all fun q => rowT c d q.1 q.2 with
      | true =>
        rw [ha] at ho
        simp [b_law_map, b_law_map_5, b_law_map_4, h0, en, ho]
      | false =>
        rw [ha] at ho
        simp [b_law_map, b_law_map_5, b_law_map_4, h0, en, ho]
    · simp [b_law_map, h0, en, hs]
theorem shows_map_ok (c : List Ins) (d : Fd) (S : Store) (h : ∀ q ∈ d, q.2.length ≤ 1000) : m_shows_map [partA c, fnA c, .dic (fA d)] S = .ok (.bl (mapT c d)) S := by
  unfold m_shows_map
  rw [pureF_ap _ _ (by simp [closed_fA])]
  have hk : (fA d).map (fun q => A.tup [kA q.1, q.2]) = d.map fun q => A.tup [.int q.1, .tup (tys q.2)] := by unfold fA; rw [List.map_map]; rfl
  have ho := shows_out c d d none none none none none h
  rw [← hk] at ho
  simp only [List.map_cons, List.map_nil] at ho
  unfold mapT
  cases h0 : look2 d 0 with
  | none =>
    have en : opNe .non (.tup []) [] = .ok (.bl true) [] := ne_non [] []
    simp [b_shows_map, h0, en]
  | some s =>
    have en : opNe (.tup (tys s)) (.tup []) [] = .ok (.bl (!decide (s = []))) [] := opNe_tup s [] []
    by_cases hs : s = []
    · subst hs
      cases ha : d.all fun q => rowT c d q.1 q.2 with
      | true =>
        rw [ha] at ho
        simp [b_shows_map, b_shows_map_3, b_shows_map_2, h0, en, ho]
      | false =>
        rw [ha] at ho
        simp [b_shows_map, b_shows_map_3, b_shows_map_2, h0, en, ho]
    · simp [b_shows_map, h0, en, hs]
end K02
end
section
set_option Elab.async false
set_option linter.all false
set_option maxRecDepth 100000
set_option maxHeartbeats 4000000
set_option autoImplicit false
/-! k02: what the walk ends with. -/
namespace K02
open PySem PySem.Spec PyProof.Rows L2 VM
theorem look2_mem {α : Type} : ∀ (d : List (Int × α)), (d.map (·.1)).Nodup → ∀ q ∈ d, look2 d q.1 = some q.2
  | [], _, q, h => by cases h
  | x :: d, hn, q, h => by
    rw [look2_cons]
    simp only [List.map_cons, List.nodup_cons] at hn
    rcases List.mem_cons.mp h with rfl | h
    · rw [if_pos rfl]
    · rw [if_neg (fun e => hn.1 (by rw [e]; exact List.mem_map_of_mem (f := fun z : Int × α => z.1) h))]
      exact look2_mem d hn.2 q h
theorem mem_look2 {α : Type} : ∀ (d : List (Int × α)) (p : Int) (x : α), look2 d p = some x → (p, x) ∈ d
  | [], p, x, h => by simp at h
  | q :: d, p, x, h => by
    rw [look2_cons] at h
    by_cases e : q.1 = p
    · rw [if_pos e] at h; cases h; subst e; exact List.mem_cons_self
    · rw [if_neg e] at h; exact List.mem_cons_of_mem _ (mem_look2 d p x h)
theorem steps_same {c : List Ins} {p : Int} {s : List Ty} {l : Fd} (h : stepsT c p s = some l) : ∀ q ∈ l, ∀ r ∈ l, q.2 = r.2 := by
  unfold stepsT at h
  split at h
  · split at h
    · rename_i i _
      unfold stepI at h
      cases hb : beh i s with
      | none => rw [hb] at h; cases h
      | some b =>
        rw [hb] at h
        cases h
        suffices z : ∀ q ∈ nexts i p b, q.2 = b from fun q hq r hr => by rw [z q hq, z r hr]
        intro q hq
        cases i with
        | ret => cases hq
        | trap => cases hq
        | branch t =>
          simp only [nexts] at hq
          split at hq
          · split at hq <;> (simp at hq; rcases hq with rfl | rfl <;> rfl)
          · simp at hq; subst hq; rfl
        | _ => simp [nexts] at hq; subst hq; rfl
    · cases h
  · cases h
theorem getLastD_snoc (p : List Int) (x : Int) : (p ++ [x]).getLastD 0 = x := by
  rw [List.getLastD_eq_getLast?]; simp
theorem alongGo_snoc (c : List Ins) (y : Int) (t : List Ty) : ∀ (r : List Int) (cur : Int) (s0 s : List Ty) (l : Fd), alongGo c cur r s0 = some s → stepsT c ((cur :: r).getLastD 0) s = some l → (y, t) ∈ l → alongGo c cur (r ++ [y]) s0 = some t
  | [], cur, s0, s, l, h, hs, hm => by
    cases h
    have hs' : stepsT c cur s0 = some l := hs
    simp only [List.nil_append, alongGo, hs']
    cases hf : l.filter fun q => decide (q.1 = y) with
    | nil =>
      have : (y, t) ∈ l.filter fun q => decide (q.1 = y) := List.mem_filter.mpr ⟨hm, by simp⟩
      rw [hf] at this; cases this
    | cons q r => simp only; rw [steps_same hs' q (filter_len hf) _ hm]
  | z :: r, cur, s0, s, l, h, hs, hm => by
    have hs' : stepsT c ((z :: r).getLastD 0) s = some l := by
      have : (cur :: z :: r).getLastD 0 = (z :: r).getLastD 0 := by simp [List.getLastD_eq_getLast?]
      rw [← this]; exact hs
    simp only [List.cons_append, alongGo] at h ⊢
    cases h1 : stepsT c cur s0 with
    | none => rw [h1] at h; cases h
    | some l1 =>
      rw [h1] at h
      simp only at h ⊢
      cases hf : l1.filter fun q => decide (q.1 = z) with
      | nil => rw [hf] at h; cases h
      | cons q r' =>
        rw [hf] at h
        simp only at h ⊢
        exact alongGo_snoc c y t r z q.2 s l h hs' hm
theorem alongT_snoc {c : List Ins} {p : List Int} {s t : List Ty} {y : Int} {l : Fd} (h : alongT c p = some s) (hs : stepsT c (p.getLastD 0) s = some l) (hm : (y, t) ∈ l) : alongT c (p ++ [y]) = some t := by
  cases p with
  | nil => cases h
  | cons x r =>
    simp only [alongT, List.cons_append] at h ⊢
    split at h
    · rename_i e
      rw [if_pos e]
      exact alongGo_snoc c y t r x [] s l h hs hm
    · cases h
def PathI (c : List Ins) (b : B) (k : Nat) : Prop := ∀ p s pp, look2 b.f p = some s → look2 b.p p = some pp → alongT c pp = some s ∧ pp.getLastD 0 = p ∧ pp.length ≤ k
theorem proc_inv (c : List Ins) (pp : List Int) (place : Int) (s0 : List Ty) (l0 : Fd) (k : Nat) (hp : alongT c pp = some s0) (hl : pp.getLastD 0 = place) (hs : stepsT c place s0 = some l0) (hk : pp.length + 1 ≤ k) :
    ∀ (l : Fd) (b : B), (∀ q ∈ l, q ∈ l0) → Keys b → PathI c b k → match proc pp l b with
      | .on b' => PathI c b' k ∧ (∀ q ∈ l, look2 b'.f q.1 = some q.2) ∧ (∀ p x, look2 b.f p = some x → look2 b'.f p = some x) ∧ (∃ t, b'.q = b.q ++ t)
      | .apart _ u v => faultT c "apart" u (some v) = true ∧ u.length ≤ k ∧ v.length ≤ k
  | [], b, _, _, h => ⟨h, fun q z => (by cases z), fun _ _ z => z, [], by simp⟩
  | (l, s) :: r, b, hin, hkb, hpi => by
    have hml := hin (l, s) List.mem_cons_self
    have hal : alongT c (pp ++ [l]) = some s := alongT_snoc hp (by rw [hl]; exact hs) hml
    unfold proc
    cases e : look2 b.f l with
    | none =>
      have hpn : look2 b.p l = none := none_look2 (by rw [hkb.2, ← hkb.1]; exact look2_none e)
      have hpi' : PathI c ⟨b.f ++ [(l, s)], b.p ++ [(l, pp ++ [l])], b.q ++ [l]⟩ k := fun p s' pp' h1 h2 => by
        simp only at h1 h2
        rw [look2_app] at h1 h2
        by_cases ep : l = p
        · subst ep
          rw [e] at h1
          rw [hpn] at h2
          simp at h1 h2
          subst h1; subst h2
          exact ⟨hal, getLastD_snoc _ _, by simpa using hk⟩
        · have e1 : look2 b.f p = some s' := by
            cases e3 : look2 b.f p with
            | some y => rw [e3] at h1; simpa using h1
            | none => rw [e3] at h1; simp [ep] at h1
          have e2 : look2 b.p p = some pp' := by
            cases e3 : look2 b.p p with
            | some y => rw [e3] at h2; simpa using h2
            | none => rw [e3] at h2; simp [ep] at h2
          exact hpi p s' pp' e1 e2
      have ih := proc_inv c pp place s0 l0 k hp hl hs hk r _ (fun q hq => hin q (List.mem_cons_of_mem _ hq)) (keys_push (l := l) (s := s) (x := pp ++ [l]) hkb) hpi'
      simp only
      cases hpc : proc pp r ⟨b.f ++ [(l, s)], b.p ++ [(l, pp ++ [l])], b.q ++ [l]⟩ with
      | on b' =>
        rw [hpc] at ih
        obtain ⟨i1, i2, i3, t, i4⟩ := ih
        refine ⟨i1, fun q hq => ?_, fun p x hx => i3 p x (by simp only; rw [look2_app, hx]), l :: t, by simp at i4; exact i4⟩
        rcases List.mem_cons.mp hq with rfl | hq
        · exact i3 l s (by simp only; rw [look2_app, e]; simp)
        · exact i2 q hq
      | apart b' u v => rw [hpc] at ih; exact ih
    | some s' =>
      simp only
      by_cases es : s' = s
      · subst es
        rw [if_pos rfl]
        have ih := proc_inv c pp place s0 l0 k hp hl hs hk r b (fun q hq => hin q (List.mem_cons_of_mem _ hq)) hkb hpi
        cases hpc : proc pp r b with
        | on b' =>
          rw [hpc] at ih
          obtain ⟨i1, i2, i3, i4⟩ := ih
          refine ⟨i1, fun q hq => ?_, i3, i4⟩
          rcases List.mem_cons.mp hq with rfl | hq
          · exact i3 _ _ e
          · exact i2 q hq
        | apart b' u v => rw [hpc] at ih; exact ih
      · rw [if_neg es]
        obtain ⟨u, hu⟩ : ∃ u, look2 b.p l = some u := look2_some (by rw [hkb.2, ← hkb.1]; exact Classical.byContradiction fun z => by rw [none_look2 z] at e; cases e)
        obtain ⟨a1, a2, a3⟩ := hpi l s' u e hu
        simp only [hu, Option.getD_some]
        refine ⟨?_, a3, by simpa using hk⟩
        simp at a2
        simp [faultT, a1, hal, a2, es]
structure Inv (c : List Ins) (b : B) (a : Nat) : Prop where
  keys : Keys b
  inq : Inq b
  zero : look2 b.f 0 = some []
  path : PathI c b (a + 1)
  done : ∀ k p, k < a → b.q[k]? = some p → ∃ s l, look2 b.f p = some s ∧ stepsT c p s = some l ∧ ∀ q ∈ l, look2 b.f q.1 = some q.2
  small : Small b a
  low : a ≤ b.q.length
theorem inv0 (c : List Ins) : Inv c b0 0 where
  keys := keys0
  inq := ⟨by simp [b0], fun x hx => by simp [b0] at hx; omega⟩
  zero := rfl
  path := fun p s pp h1 h2 => by
    simp [b0] at h1 h2
    obtain ⟨rfl, rfl⟩ := h1
    obtain ⟨_, rfl⟩ := h2
    exact ⟨rfl, rfl, by decide⟩
  done := fun k p h => absurd h (by omega)
  small := small0
  low := by simp
theorem run_inv (c : List Ins) (hc : WFc c) : ∀ (n : Nat) (b : B) (a : Nat), n + a = 100 → Inv c b a → match wrun c n b a with
    | .done b' _ => Keys b' ∧ Inq b' ∧ Small b' 61 ∧ mapT c b'.f = true
    | .stuck _ p => faultT c "stuck" p none = true ∧ p.length ≤ 62
    | .apart _ u v => faultT c "apart" u (some v) = true ∧ u.length ≤ 63 ∧ v.length ≤ 63
    | .out => False
  | 0, b, a, hn, h => by
    have := inq_len h.inq
    have := h.low
    omega
  | n + 1, b, a, hn, h => by
    have hz := inq_len h.inq
    have hlow := h.low
    unfold wrun
    cases hq : b.q[a]? with
    | none =>
      have hge := List.getElem?_eq_none_iff.mp hq
      refine ⟨h.keys, h.inq, fun p s hs => by have := h.small p s hs; omega, ?_⟩
      unfold mapT
      rw [h.zero]
      have hnd : (b.f.map (·.1)).Nodup := by rw [h.keys.1]; exact h.inq.1
      simp only [decide_true, Bool.true_and, List.all_eq_true]
      intro q hqm
      have hl2 := look2_mem b.f hnd q hqm
      have hm : q.1 ∈ b.q := by rw [← h.keys.1]; exact List.mem_map_of_mem (f := fun z : Int × List Ty => z.1) hqm
      obtain ⟨k, hk⟩ := List.getElem?_of_mem hm
      have hka : k < a := by have := (List.getElem?_eq_some_iff.mp hk).1; omega
      obtain ⟨s, l, d1, d2, d3⟩ := h.done k q.1 hka hk
      rw [hl2] at d1
      cases d1
      simp only [rowT, d2, fitsT, List.all_eq_true, decide_eq_true_eq]
      exact d3
    | some place =>
      have hlt := (List.getElem?_eq_some_iff.mp hq).1
      have hm : place ∈ b.q := List.mem_of_getElem? hq
      obtain ⟨s, hf⟩ : ∃ s, look2 b.f place = some s := look2_some (by rw [h.keys.1]; exact hm)
      obtain ⟨pp, hpp⟩ : ∃ s, look2 b.p place = some s := look2_some (by rw [h.keys.2]; exact hm)
      obtain ⟨a1, a2, a3⟩ := h.path place s pp hf hpp
      simp only [hf, hpp]
      cases hst : stepsT c place s with
      | none =>
        refine ⟨?_, by omega⟩
        simp at a2
        simp [faultT, a1, a2, hst]
      | some l =>
        simp only
        have pin := proc_inv c pp place s l (a + 2) a1 a2 hst (by omega) l b (fun q z => z) h.keys (fun p s pp x y => by have := h.path p s pp x y; exact ⟨this.1, this.2.1, by omega⟩)
        cases hpc : proc pp l b with
        | on b' =>
          rw [hpc] at pin
          obtain ⟨i1, i2, i3, t, i4⟩ := pin
          obtain ⟨k1, k2, k3, k4, k5⟩ := proc_facts pp l b b' (a + 1) hpc h.keys (fun p s h' => by have := h.small p s h'; omega) (fun q hq => by have := steps_small hst q hq; have := h.small place s hf; omega)
          exact run_inv c hc n b' (a + 1) (by omega)
            { keys := k1
              inq := proc_inq pp l b b' hpc h.keys h.inq (steps_in hc hst)
              zero := i3 _ _ h.zero
              path := i1
              done := fun k p hk hp => by
                by_cases e : k < a
                · have hp' : b.q[k]? = some p := by
                    rw [i4, List.getElem?_append_left (by omega)] at hp
                    exact hp
                  obtain ⟨s1, l1, d1, d2, d3⟩ := h.done k p e hp'
                  exact ⟨s1, l1, i3 _ _ d1, d2, fun q hq => i3 _ _ (d3 q hq)⟩
                · have ek : k = a := by omega
                  subst ek
                  rw [i4, List.getElem?_append_left (by omega), hq] at hp
                  cases hp
                  exact ⟨s, l, i3 _ _ hf, hst, i2⟩
              small := k2
              low := by rw [i4, List.length_append]; omega }
        | apart b' u v =>
          rw [hpc] at pin
          exact ⟨pin.1, by omega, by omega⟩
end K02
end
section
set_option Elab.async false
set_option linter.all false
set_option maxRecDepth 100000
set_option maxHeartbeats 4000000
set_option autoImplicit false
/-! k02: is_part, is_accepted. -/
namespace K02
open PySem PySem.Spec PyProof.Rows L2 VM
@[simp] theorem closed_ta (t : Ty) : closed t.a = true := Eq.trans rfl (Eq.refl _)
theorem type_ok (c : List Ins) (t : Ty) (S : Store) : m_is_type [partA c, t.a] S = .ok (.bl true) S := by
  unfold m_is_type
  rw [pureF_ap _ _ (by simp)]
  cases t <;> simp [b_is_type, Ty.a, Ty.s, k_INT, k_INTS, record_pair, pairF]
theorem types_ok (c : List Ins) (ts : List Ty) (S : Store) (h : ts.length ≤ 6) : m_are_types [partA c, .tup (tys ts), k_MOST_FIELDS] S = .ok (.bl true) S := by
  unfold m_are_types
  rw [pureF_ap _ _ (by simp [k_MOST_FIELDS])]
  have hl : ((ts.length : Int) ≤ 6) := by omega
  have e := lcL_pure (g := gN 3) (t := tNot (tVal (cApp m_is_type (cCons (cVar 0) (cCons (cVar 3) cNil))))) (el := cC (.int 1)) (e0 := [some (partA c), some (.tup (tys ts)), some k_MOST_FIELDS, none]) (S := []) Ty.a (fun _ => false) (fun _ => .int 1) ts [] (fun x hx => by simp [turnC, type_ok]) (by simp; omega)
  simp only [k_MOST_FIELDS, tys] at e ⊢
  simp [b_are_types, hl, e]
theorem result_ok (c : List Ins) (t : Ty) (S : Store) : m_is_result [partA c, t.a] S = .ok (.bl true) S := by
  unfold m_is_result
  rw [pureF_ap _ _ (by simp)]
  have e := type_ok c t []
  cases t <;> (simp only [Ty.a, Ty.s] at e ⊢; simp [b_is_result, k_NO_RESULT, e])
theorem cut_2 (x y : A) : cutA [x, y] (some 1) none = [y] := Eq.trans rfl (Eq.refl _)
theorem inst_ok (i : Ins) (h : insOk i) (S : Store) : m_is_instruction [i.e] S = .ok (.bl true) S := by
  unfold m_is_instruction
  rw [pureF_ap _ _ (by simp [closed_ins])]
  cases i with
  | push w =>
    obtain ⟨h1, h2⟩ := h
    have ew : m_is_word [.int w] [] = .ok (.bl true) [] := by
      unfold m_is_word
      rw [pureF_ap _ _ (by simp)]
      simp [b_is_word, k_LEAST_WORD, k_GREATEST_WORD, h1, h2]
    simp [b_is_instruction, b_is_instruction_8, b_is_instruction_7, b_is_instruction_6, b_is_instruction_5, b_is_instruction_4, Ins.e, k_PLAIN, k_FIELDS, cut_2, ew]
  | jump t =>
    obtain ⟨h1, h2⟩ := h
    simp [b_is_instruction, b_is_instruction_8, b_is_instruction_7, b_is_instruction_6, b_is_instruction_5, b_is_instruction_4, b_is_instruction_3, b_is_instruction_2, Ins.e, k_PLAIN, k_FIELDS, k_MOST_PLACES, cut_2, h1, h2]
  | branch t =>
    obtain ⟨h1, h2⟩ := h
    simp [b_is_instruction, b_is_instruction_8, b_is_instruction_7, b_is_instruction_6, b_is_instruction_5, b_is_instruction_4, b_is_instruction_3, b_is_instruction_2, Ins.e, k_PLAIN, k_FIELDS, k_MOST_PLACES, cut_2, h1, h2]
  | load i => match i with
    | ⟨0, _⟩ | ⟨1, _⟩ | ⟨2, _⟩ | ⟨3, _⟩ | ⟨4, _⟩ | ⟨5, _⟩ => kernel_rfl
  | store i => match i with
    | ⟨0, _⟩ | ⟨1, _⟩ | ⟨2, _⟩ | ⟨3, _⟩ | ⟨4, _⟩ | ⟨5, _⟩ => kernel_rfl
  | get i => match i with
    | ⟨0, _⟩ | ⟨1, _⟩ | ⟨2, _⟩ => kernel_rfl
  | set i => match i with
    | ⟨0, _⟩ | ⟨1, _⟩ | ⟨2, _⟩ => kernel_rfl
  | _ => kernel_rfl
theorem name_go : m_is_name [.str "go"] [] = .ok (.bl true) [] := by kernel_rfl
theorem name_main : m_is_name [.str "main"] [] = .ok (.bl true) [] := by kernel_rfl
theorem function_ok (c : List Ins) (hc : WFc c) (S : Store) : m_is_function [partA c, fnA c] S = .ok (.bl true) S := by
  unfold m_is_function
  rw [pureF_ap _ _ (by simp)]
  have hl : ¬ ((60 : Int) < c.length) := by have := hc.len; omega
  have e1 : m_are_types [partA c, .tup [.str "int", .str "int"], k_MOST_FIELDS] [] = _ := types_ok c [.int, .int] [] (by decide)
  have e2 : m_are_types [partA c, .tup [.str "int", .str "int", .str "lib.pair", .str "int"], k_MOST_FIELDS] [] = _ := types_ok c [.int, .int, .pair, .int] [] (by decide)
  have e3 : m_is_result [partA c, .str "int"] [] = _ := result_ok c .int []
  have e4 := lcL_pure (g := gN 7) (t := tNot (tVal (cApp m_is_instruction (cCons (cVar 7) cNil)))) (el := cC (.int 1)) (e0 := [some (partA c), some (fnA c), some (.str "go"), some (.tup [.str "int", .str "int"]), some (.str "int"), some (.tup [.str "int", .str "int", .str "lib.pair", .str "int"]), some (codeA c), none]) (S := []) Ins.e (fun _ => false) (fun _ => .int 1) c [] (fun x hx => by simp [turnC, inst_ok x (hc.ok x hx)]) (by have := hc.len; simp; omega)
  have e5 : ∀ (f : List A → C → CL), True := fun _ => trivial
  have ef : ∀ (p : A) (e : Slots), gT ([2, 3, 4, 5, 6].map gN) (fnA c) e [] = .nx (((((e.set 2 (some (.str "go"))).set 3 (some (.tup [.str "int", .str "int"]))).set 4 (some (.str "int"))).set 5 (some (.tup [.str "int", .str "int", .str "lib.pair", .str "int"]))).set 6 (some (codeA c))) [] := fun _ _ => rfl
  have ec : itemsF (codeA c) [] = .ok (c.map Ins.e) [] := rfl
  have el : opLen [codeA c] [] = .ok (.int c.length) [] := len_code c []
  simp only [List.map_cons, List.map_nil] at ef
  generalize hp : partA c = pa at e1 e2 e3 e4 ⊢
  generalize hf : fnA c = fa at e4 ef ⊢
  generalize hco : codeA c = ca at e4 ef ec el ⊢
  simp [b_is_function, b_is_function_2, b_is_function_1, b_is_function_0, ef pa, name_go, e1, e2, e3, k_MOST_PLACES, el, hl, ec, e4]
theorem full_p : m_is_full [.str "lib.pair"] [] = .ok (.bl true) [] := by kernel_rfl
theorem full_f : m_is_full [.str "lib.f"] [] = .ok (.bl true) [] := by kernel_rfl
theorem full_2 : m_is_full [.str "lib.pair2"] [] = .ok (.bl true) [] := by kernel_rfl
theorem of_p : m_part_of [.str "lib.pair"] [] = .ok (.str "lib") [] := by kernel_rfl
theorem of_f : m_part_of [.str "lib.f"] [] = .ok (.str "lib") [] := by kernel_rfl
theorem of_2 : m_part_of [.str "lib.pair2"] [] = .ok (.str "lib") [] := by kernel_rfl
def use0 : A := .tup [.str "rec", .str "lib.pair", pairF]
def use1 : A := .tup [.str "fun", .str "lib.f", .tup [.str "int", .str "int"], .str "int"]
def use2 : A := .tup [.str "fun", .str "lib.pair2", pairF, .str "lib.pair"]
theorem part_0 (c : List Ins) : opIx (partA c) (.int 0) [] = .ok (.str "main") [] := by simp [partA]
theorem use0_ok (c : List Ins) (S : Store) : m_is_use [partA c, use0] S = .ok (.bl true) S := by
  unfold m_is_use
  rw [pureF_ap _ _ (by simp [use0, pairF])]
  have e1 : m_are_types [partA c, pairF, k_MOST_FIELDS] [] = _ := types_ok c [.int, .pair] [] (by decide)
  have e0 := part_0 c
  generalize hp : partA c = pa at e0 e1 ⊢
  simp [b_is_use, b_is_use_1, b_is_use_0, use0, full_p, of_p, e0, e1]
theorem use1_ok (c : List Ins) (S : Store) : m_is_use [partA c, use1] S = .ok (.bl true) S := by
  unfold m_is_use
  rw [pureF_ap _ _ (by simp [use1, pairF])]
  have e1 : m_are_types [partA c, .tup [.str "int", .str "int"], k_MOST_FIELDS] [] = _ := types_ok c [.int, .int] [] (by decide)
  have e3 : m_is_result [partA c, .str "int"] [] = _ := result_ok c .int []
  have e0 := part_0 c
  generalize hp : partA c = pa at e0 e1 e3 ⊢
  simp [b_is_use, b_is_use_1, b_is_use_0, use1, full_f, of_f, e0, e1, e3]
theorem use2_ok (c : List Ins) (S : Store) : m_is_use [partA c, use2] S = .ok (.bl true) S := by
  unfold m_is_use
  rw [pureF_ap _ _ (by simp [use2, pairF])]
  have e1 : m_are_types [partA c, pairF, k_MOST_FIELDS] [] = _ := types_ok c [.int, .pair] [] (by decide)
  have e3 : m_is_result [partA c, .str "lib.pair"] [] = _ := result_ok c .pair []
  have e0 := part_0 c
  generalize hp : partA c = pa at e0 e1 e3 ⊢
  simp [b_is_use, b_is_use_1, b_is_use_0, use2, full_2, of_2, e0, e1, e3]
theorem open_ok (c : List Ins) (S : Store) : m_is_open [partA c] S = .ok (.bl true) S := by
  unfold m_is_open
  rw [pureF_ap _ _ (by simp)]
  kernel_rfl
theorem diff0 : m_are_different [.lst []] [] = .ok (.bl true) [] := by kernel_rfl
theorem diff1 : m_are_different [.lst [.str "go"]] [] = .ok (.bl true) [] := by kernel_rfl
theorem diff3 : m_are_different [.lst [.str "lib.pair", .str "lib.f", .str "lib.pair2"]] [] = .ok (.bl true) [] := by kernel_rfl
theorem part_ok (c : List Ins) (hc : WFc c) (S : Store) : m_is_part [partA c] S = .ok (.bl true) S := by
  unfold m_is_part
  rw [pureF_ap _ _ (by simp)]
  have ef := function_ok c hc []
  have e0 := use0_ok c []
  have e1 := use1_ok c []
  have e2 := use2_ok c []
  have eo := open_ok c []
  have eg : opIx (fnA c) (.int 0) [] = .ok (.str "go") [] := by simp [fnA]
  have ep : ∀ (e : Slots), gT ([1, 2, 3, 4, 5].map gN) (partA c) e [] = .nx (((((e.set 1 (some (.str "main"))).set 2 (some (.tup []))).set 3 (some (.tup [use0, use1, use2]))).set 4 (some (.tup [fnA c]))).set 5 (some (.tup [.str "go"]))) [] := fun _ => rfl
  have u0 : opIx use0 (.int 1) [] = .ok (.str "lib.pair") [] := rfl
  have u1 : opIx use1 (.int 1) [] = .ok (.str "lib.f") [] := rfl
  have u2 : opIx use2 (.int 1) [] = .ok (.str "lib.pair2") [] := rfl
  simp only [List.map_cons, List.map_nil] at ep
  generalize hp : partA c = pa at ef e0 e1 e2 eo ep ⊢
  generalize hf : fnA c = fa at ef eg ep ⊢
  generalize use0 = v0 at *
  generalize use1 = v1 at *
  generalize use2 = v2 at *
  simp [b_is_part, b_is_part_6, b_is_part_5, b_is_part_4, b_is_part_3, b_is_part_2, b_is_part_1, ep, name_main, k_MOST_RECORDS, k_MOST_USES, k_MOST_FUNCTIONS, lcL, turnC, cYes, u0, u1, u2, diff0, diff1, diff3, eg, e0, e1, e2, ef, eo]
theorem least_map_ok (c : List Ins) (S : Store) : m_least_map [partA c, fnA c] S = match wrun c 100 b0 0 with
    | .done b _ => .ok (.dic (fA b.f)) S
    | .stuck _ _ => .ok .non S
    | .apart _ _ _ => .ok .non S
    | .out => .bad := by
  unfold m_least_map
  rw [pureF_ap _ _ (by simp)]
  have e := walked_ok c []
  generalize wrun c 100 b0 0 = r at e ⊢
  cases r with
  | done b a => simp only at e; simp [b_least_map, e]; exact pu_ok (by simp [closed_fA])
  | stuck b p => simp only [stuckA] at e; simp [b_least_map, e]
  | apart b u v => simp only [apartA] at e; simp [b_least_map, e]
  | out => simp only at e; simp [b_least_map, e]
theorem fault_paper_ok (c : List Ins) (S : Store) : m_fault_paper [partA c, fnA c] S = match wrun c 100 b0 0 with
    | .done b _ => .ok .non S
    | .stuck _ p => .ok (paperA "stuck" p none) S
    | .apart _ u v => .ok (paperA "apart" u (some v)) S
    | .out => .bad := by
  unfold m_fault_paper
  rw [pureF_ap _ _ (by simp)]
  have e := walked_ok c []
  generalize wrun c 100 b0 0 = r at e ⊢
  cases r with
  | done b a => simp only at e; simp [b_fault_paper, e]
  | stuck b p => simp only [stuckA] at e; simp [b_fault_paper, e]; exact pu_ok (by simp [closed_ints])
  | apart b u v => simp only [apartA] at e; simp [b_fault_paper, e]; exact pu_ok (by simp [closed_ints])
  | out => simp only at e; simp [b_fault_paper, e]
def Res.isDone : Res → Bool
  | .done _ _ => true
  | _ => false
theorem accepted_ok (c : List Ins) (hc : WFc c) (hr : wrun c 100 b0 0 ≠ .out) (S : Store) : m_is_accepted [partA c] S = .ok (.bl (wrun c 100 b0 0).isDone) S := by
  unfold m_is_accepted
  rw [pureF_ap _ _ (by simp)]
  have e := least_map_ok c []
  have ep := part_ok c hc []
  have e3 : opIx (partA c) (.int 3) [] = .ok (.tup [fnA c]) [] := by simp [partA]
  generalize wrun c 100 b0 0 = r at e hr ⊢
  generalize hp : partA c = pa at e ep e3 ⊢
  generalize hf : fnA c = fa at e e3 ⊢
  cases r with
  | done b a => simp only at e; simp [b_is_accepted, ep, e3, lcL, turnC, e, Res.isDone]
  | stuck b p => simp only at e; simp [b_is_accepted, ep, e3, lcL, turnC, e, Res.isDone]
  | apart b u v => simp only at e; simp [b_is_accepted, ep, e3, lcL, turnC, e, Res.isDone]
  | out => exact absurd rfl hr
end K02
end
section
set_option Elab.async false
set_option linter.all false
set_option maxRecDepth 100000
set_option maxHeartbeats 4000000
set_option autoImplicit false
/-! the deal: take, pick, word, drawn expressions. -/
namespace K02
open PySem PySem.Spec PyProof.Rows L2 VM
/-- the drawn numbers, and what else lies in the store -/
abbrev DRw := List Int × Store
def stD (r : DRw) (k : Nat) : Store := .lst (r.1.map .int) :: .lst [.int (k : Nat)] :: r.2
def dA (t : Int) : A := .lst [.ref 0, .ref 1, .int t]
theorem dA_1 (t : Int) (S : Store) : opIx (dA t) (.int 1) S = .ok (.ref 1) S := Eq.trans rfl (Eq.refl _)
theorem dA_0 (t : Int) (S : Store) : opIx (dA t) (.int 0) S = .ok (.ref 0) S := Eq.trans rfl (Eq.refl _)
theorem dA_2 (t : Int) (S : Store) : opIx (dA t) (.int 2) S = .ok (.int t) S := Eq.trans rfl (Eq.refl _)
theorem stD_1 (r : DRw) (k : Nat) : opIx (.ref 1) (.int 0) (stD r k) = .ok (.int (k : Nat)) (stD r k) := Eq.trans rfl (Eq.refl _)
theorem stD_0 (r : DRw) (k j : Nat) : opIx (.ref 0) (.int (j : Nat)) (stD r k) = optR ((r.1[j]?).map A.int) (stD r k) := by
  rw [← atI_q]; rfl
theorem stD_len (r : DRw) (k : Nat) : opLen [.ref 0] (stD r k) = .ok (.int r.1.length) (stD r k) := by
  show R.ok (A.int (r.1.map A.int).length) _ = _
  rw [List.length_map]
theorem stD_set (r : DRw) (k : Nat) : opSet (.ref 1) (.int 0) (.int ((k : Int) + 1)) (stD r k) = .ok .non (stD r (k + 1)) := Eq.trans rfl (Eq.refl _)
theorem fmod_range (a m : Int) (h : 0 < m) : 0 ≤ a.fmod m ∧ a.fmod m < m := ⟨Int.fmod_nonneg_of_pos a h, Int.fmod_lt_of_pos a h⟩
theorem mul_c1 (k : Int) : cMul k 7919 = true := decide_eq_true (.inr (by decide))
theorem mul_c2 (k : Int) : cMul k 31 = true := decide_eq_true (.inr (by decide))
theorem mul_c3 (k : Nat) (h : k < 1000000) : cMul (k : Int) (k : Int) = true := decide_eq_true (.inr (by omega))
theorem mul_c4 (k : Int) : cMul k 17 = true := decide_eq_true (.inr (by decide))
theorem div_c3 (k : Int) : cDivN k 3 = true := decide_eq_true (by decide)
theorem take_ok (r : DRw) (t : Int) (k : Nat) (many : Int) (hm : 0 < many) (hk : k < 1000000) :
    ∃ v : Int, 0 ≤ v ∧ v < many ∧ m_law_take [dA t, .int many] (stD r k) = .ok (.int v) (stD r (k + 1)) := by
  have hne : many ≠ 0 := by omega
  unfold m_law_take
  by_cases h : k < r.1.length
  · have h' : ((k : Int) < (r.1.length : Int)) := by omega
    refine ⟨r.1[k].fmod many, (fmod_range _ _ hm).1, (fmod_range _ _ hm).2, ?_⟩
    have hg : r.1[k]? = some r.1[k] := List.getElem?_eq_getElem h
    have e1 := stD_0 r (k + 1) k
    rw [hg] at e1
    simp [b_law_take, b_law_take_2, b_law_take_1, b_law_take_0, dA_0, dA_1, dA_2, stD_1, stD_len, stD_set, h', e1, opMod_ap _ _ hne]
  · have h' : ¬ ((k : Int) < (r.1.length : Int)) := by omega
    obtain ⟨x1, m1⟩ : ∃ x, ∀ S, opMul (.int (k : Int)) (.int 7919) S = .ok (.int x) S := ⟨_, fun S => opMul_ap _ _ (mul_c1 k)⟩
    obtain ⟨x2, m2⟩ : ∃ x, ∀ S, opMul (.int t) (.int 31) S = .ok (.int x) S := ⟨_, fun S => opMul_ap _ _ (mul_c2 t)⟩
    obtain ⟨x3, m3⟩ : ∃ x, ∀ S, opMul (.int (k : Int)) (.int (k : Int)) S = .ok (.int x) S := ⟨_, fun S => opMul_ap _ _ (mul_c3 k hk)⟩
    obtain ⟨x4, m4⟩ : ∃ x, ∀ S, opMul (.int x3) (.int 17) S = .ok (.int x) S := ⟨_, fun S => opMul_ap _ _ (mul_c4 x3)⟩
    obtain ⟨x5, m5⟩ : ∃ x, ∀ S, opDiv (.int (x1 + x2 + x4)) (.int 3) S = .ok (.int x) S := ⟨_, fun S => opDiv_ap _ _ (div_c3 _)⟩
    refine ⟨x5.fmod many, (fmod_range _ _ hm).1, (fmod_range _ _ hm).2, ?_⟩
    simp [b_law_take, b_law_take_2, b_law_take_1, b_law_take_0, dA_0, dA_1, dA_2, stD_1, stD_len, stD_set, h', m1, m2, m3, m4, m5, opMod_ap _ _ hne]
theorem pick_ok (r : DRw) (t : Int) (k : Nat) (xs : List A) (hx : 0 < xs.length) (hk : k < 1000000) :
    ∃ x ∈ xs, m_law_pick [dA t, .lst xs] (stD r k) = .ok x (stD r (k + 1)) := by
  obtain ⟨v, h1, h2, e⟩ := take_ok r t k xs.length (by omega) hk
  obtain ⟨n, rfl⟩ : ∃ n : Nat, v = n := ⟨v.toNat, by omega⟩
  have hn : n < xs.length := by omega
  refine ⟨xs[n], List.getElem_mem hn, ?_⟩
  have ei : ∀ S, opIx (.lst xs) (.int (n : Int)) S = .ok xs[n] S := fun S => opIx_lst (by rw [VM.atI_nat, List.getElem?_eq_getElem hn])
  unfold m_law_pick
  simp [b_law_pick, e, ei]
def isW (w : Int) : Prop := -2147483648 ≤ w ∧ w ≤ 2147483647
theorem word_ok (r : DRw) (t : Int) (k : Nat) (hk : k < 1000000) :
    ∃ w, isW w ∧ m_law_word [dA t] (stD r k) = .ok (.int w) (stD r (k + 1)) := by
  obtain ⟨x, hx, e⟩ := pick_ok r t k [.int 0, .int 1, .int 2, .int 3, .int (-1), .int 7, .int (-5), .int 100, .int 2147483647, .int (-2147483648)] (by decide) hk
  have : ∃ w, isW w ∧ x = .int w := by
    simp only [List.mem_cons, List.not_mem_nil, or_false] at hx
    rcases hx with rfl | rfl | rfl | rfl | rfl | rfl | rfl | rfl | rfl | rfl <;> exact ⟨_, by unfold isW; omega, rfl⟩
  obtain ⟨w, hw, rfl⟩ := this
  refine ⟨w, hw, ?_⟩
  unfold m_law_word
  simp [b_law_word, e]
inductive Ex where
  | num (w : Int) | var (i : Fin 4) | call (a b : Ex) | bin (o : Fin 6) (a b : Ex)
def opS (o : Fin 6) : Str := match o with
  | 0 => "add" | 1 => "sub" | 2 => "mul" | 3 => "div" | 4 => "less" | 5 => "same"
def opI (o : Fin 6) : Ins := match o with
  | 0 => .add | 1 => .sub | 2 => .mul | 3 => .div | 4 => .less | 5 => .same
def Ex.a : Ex → A
  | .num w => .tup [.str "num", .int w]
  | .var i => .tup [.str "var", .int i.val]
  | .call a b => .tup [.str "call", a.a, b.a]
  | .bin o a b => .tup [.str "bin", .str (opS o), a.a, b.a]
def Ex.ok : Ex → Prop
  | .num w => isW w
  | .var _ => True
  | .call a b => a.ok ∧ b.ok
  | .bin _ a b => a.ok ∧ b.ok
def Ex.dep : Ex → Nat
  | .num _ => 0
  | .var _ => 0
  | .call a b => max a.dep b.dep + 1
  | .bin _ a b => max a.dep b.dep + 1
def Ex.code : Ex → List Ins
  | .num w => [.push w]
  | .var i => [.load ⟨i.val, by omega⟩]
  | .call a b => a.code ++ b.code ++ [.callF]
  | .bin o a b => a.code ++ b.code ++ [opI o]
theorem closed_ex : ∀ e : Ex, closed e.a = true
  | .num w => rfl
  | .var i => rfl
  | .call a b => by simp [Ex.a, closed_ex a, closed_ex b]
  | .bin o a b => by simp [Ex.a, closed_ex a, closed_ex b]
theorem ex_len : ∀ e : Ex, e.code.length + 1 ≤ 2 ^ (e.dep + 1)
  | .num w => by simp [Ex.code, Ex.dep]
  | .var i => by simp [Ex.code, Ex.dep]
  | .call a b => by
    have h1 := ex_len a
    have h2 := ex_len b
    have m1 : 2 ^ (a.dep + 1) ≤ 2 ^ (max a.dep b.dep + 1) := Nat.pow_le_pow_right (by decide) (by omega)
    have m2 : 2 ^ (b.dep + 1) ≤ 2 ^ (max a.dep b.dep + 1) := Nat.pow_le_pow_right (by decide) (by omega)
    simp only [Ex.code, Ex.dep, List.length_append, List.length_cons, List.length_nil]
    rw [Nat.pow_succ 2 (max a.dep b.dep + 1)]
    omega
  | .bin o a b => by
    have h1 := ex_len a
    have h2 := ex_len b
    have m1 : 2 ^ (a.dep + 1) ≤ 2 ^ (max a.dep b.dep + 1) := Nat.pow_le_pow_right (by decide) (by omega)
    have m2 : 2 ^ (b.dep + 1) ≤ 2 ^ (max a.dep b.dep + 1) := Nat.pow_le_pow_right (by decide) (by omega)
    simp only [Ex.code, Ex.dep, List.length_append, List.length_cons, List.length_nil]
    rw [Nat.pow_succ 2 (max a.dep b.dep + 1)]
    omega
theorem expr_ok (r : DRw) (t : Int) (slots : Int) (hs : 0 < slots ∧ slots ≤ 4) : ∀ (n d k : Nat), d < n → k + 4 ^ (d + 1) ≤ 1000000 →
    ∃ (e : Ex) (k' : Nat), e.ok ∧ e.dep ≤ d ∧ k' ≤ k + 4 ^ (d + 1) ∧ m_law_expr n [dA t, .int (d : Nat), .int slots] (stD r k) = .ok e.a (stD r k')
  | 0, d, k, h, _ => absurd h (by omega)
  | n + 1, d, k, hd, hk => by
    have hp : 4 ≤ 4 ^ (d + 1) := by have := Nat.pow_le_pow_right (n := 4) (by decide) (show 1 ≤ d + 1 by omega); simpa using this
    obtain ⟨c, c1, c2, ec⟩ := take_ok r t k 6 (by decide) (by omega)
    unfold m_law_expr
    by_cases hz : d = 0 ∨ c = 0
    · have hz' : ((d : Int) = 0) ∨ c = 0 := by omega
      obtain ⟨b, b1, b2, eb⟩ := take_ok r t (k + 1) 2 (by decide) (by omega)
      by_cases hb : b = 0
      · subst hb
        obtain ⟨w, hw, ew⟩ := word_ok r t (k + 1 + 1) (by omega)
        refine ⟨.num w, k + 1 + 1 + 1, hw, by simp [Ex.dep], by omega, ?_⟩
        by_cases hd0 : d = 0
        · simp [ec, eb, ew, Ex.a, hd0]
        · simp [ec, eb, ew, Ex.a, hd0, hz.resolve_left hd0]
      · obtain ⟨v, v1, v2, ev⟩ := take_ok r t (k + 1 + 1) slots hs.1 (by omega)
        obtain ⟨v, rfl⟩ : ∃ n : Nat, v = n := ⟨v.toNat, by omega⟩
        refine ⟨.var ⟨v, by omega⟩, k + 1 + 1 + 1, trivial, by simp [Ex.dep], by omega, ?_⟩
        by_cases hd0 : d = 0
        · simp [ec, eb, ev, Ex.a, hb, hd0]
        · simp [ec, eb, ev, Ex.a, hb, hd0, hz.resolve_left hd0]
    · simp only [not_or] at hz
      obtain ⟨d', rfl⟩ : ∃ d', d = d' + 1 := ⟨d - 1, by omega⟩
      have hpw : 4 ^ (d' + 1 + 1) = 4 * 4 ^ (d' + 1) := by rw [Nat.pow_succ]; omega
      have hp2 : 4 ≤ 4 ^ (d' + 1) := by have := Nat.pow_le_pow_right (n := 4) (by decide) (show 1 ≤ d' + 1 by omega); simpa using this
      obtain ⟨D, hD⟩ : ∃ D : Int, ((d' + 1 : Nat) : Int) = D := ⟨_, rfl⟩
      have hd0 : ¬ (D = 0) := by omega
      have hsub : (D - 1) = ((d' : Nat) : Int) := by omega
      rw [hD]
      have hc0 := hz.2
      by_cases hc5 : c = 5 ∧ 2 < slots
      · obtain ⟨a, k1, a1, a2, a3, ea⟩ := expr_ok r t slots hs n d' (k + 1) (by omega) (by omega)
        obtain ⟨b, k2, b1, b2, b3, eb⟩ := expr_ok r t slots hs n 0 k1 (by omega) (by have : 4 ^ (0 + 1) = 4 := rfl; omega)
        have e4 : 4 ^ (0 + 1) = 4 := rfl
        refine ⟨.call a b, k2, ⟨a1, b1⟩, by simp only [Ex.dep]; omega, by omega, ?_⟩
        have eb' : m_law_expr n [dA t, .int 0, .int slots] (stD r k1) = .ok b.a (stD r k2) := eb
        obtain ⟨rfl, hs2⟩ := hc5
        simp [ec, hd0, hs2, hsub, ea, eb', Ex.a]
      · obtain ⟨o, ho, eo⟩ := pick_ok r t (k + 1) [.str "add", .str "sub", .str "mul", .str "div", .str "less", .str "same"] (by decide) (by omega)
        obtain ⟨a, k1, a1, a2, a3, ea⟩ := expr_ok r t slots hs n d' (k + 1 + 1) (by omega) (by omega)
        obtain ⟨b, k2, b1, b2, b3, eb⟩ := expr_ok r t slots hs n d' k1 (by omega) (by omega)
        have : ∃ q : Fin 6, o = .str (opS q) := by
          simp only [List.mem_cons, List.not_mem_nil, or_false] at ho
          rcases ho with rfl | rfl | rfl | rfl | rfl | rfl
          · exact ⟨0, rfl⟩
          · exact ⟨1, rfl⟩
          · exact ⟨2, rfl⟩
          · exact ⟨3, rfl⟩
          · exact ⟨4, rfl⟩
          · exact ⟨5, rfl⟩
        obtain ⟨q, rfl⟩ := this
        refine ⟨.bin q a b, k2, ⟨a1, b1⟩, by simp only [Ex.dep]; omega, by omega, ?_⟩
        by_cases h5 : c = 5
        · have hs2 : ¬ (2 < slots) := fun z => hc5 ⟨h5, z⟩
          subst h5
          simp [ec, hd0, hs2, hsub, eo, ea, eb, Ex.a]
        · simp [ec, hd0, hc0, h5, hsub, eo, ea, eb, Ex.a]
theorem code_ok : ∀ (n : Nat) (e : Ex) (S : Store), e.dep < n → e.dep ≤ 4 → m_law_code n [e.a] S = .ok (.lst (e.code.map Ins.e)) S
  | 0, e, S, h, _ => absurd h (by omega)
  | n + 1, e, S, h, h4 => by
    unfold m_law_code
    rw [pureF_ap _ _ (by simp [closed_ex])]
    have hfin : ∀ c : List Ins, (R.ok (A.lst (c.map Ins.e)) []).pu S = .ok (.lst (c.map Ins.e)) S := fun c => pu_ok (closed_inss c)
    cases e with
    | num w => simp [Ex.a, Ex.code]; exact hfin [.push w]
    | var i => simp [Ex.a, Ex.code]; exact hfin [.load ⟨i.val, by omega⟩]
    | call a b =>
      simp only [Ex.dep] at h h4
      have ea := code_ok n a [] (by omega) (by omega)
      have eb := code_ok n b [] (by omega) (by omega)
      have la := ex_len a
      have lb := ex_len b
      have m1 : 2 ^ (a.dep + 1) ≤ 2 ^ 5 := Nat.pow_le_pow_right (by decide) (by omega)
      have m2 : 2 ^ (b.dep + 1) ≤ 2 ^ 5 := Nat.pow_le_pow_right (by decide) (by omega)
      have z : a.code.length + b.code.length ≤ 16777216 := by omega
      have z2 : a.code.length + b.code.length + 1 ≤ 16777216 := by omega
      have f := hfin (a.code ++ b.code ++ [.callF])
      simp only [List.map_append, List.map_cons, List.map_nil, Ins.e, List.append_assoc] at f
      simp [Ex.a, Ex.code, ea, eb, opAdd_lst, z, z2, Ins.e]
      exact f
    | bin o a b =>
      simp only [Ex.dep] at h h4
      have ea := code_ok n a [] (by omega) (by omega)
      have eb := code_ok n b [] (by omega) (by omega)
      have la := ex_len a
      have lb := ex_len b
      have m1 : 2 ^ (a.dep + 1) ≤ 2 ^ 5 := Nat.pow_le_pow_right (by decide) (by omega)
      have m2 : 2 ^ (b.dep + 1) ≤ 2 ^ 5 := Nat.pow_le_pow_right (by decide) (by omega)
      have z : a.code.length + b.code.length ≤ 16777216 := by omega
      have z2 : a.code.length + b.code.length + 1 ≤ 16777216 := by omega
      have eo : (opI o).e = .tup [.str (opS o)] := by
        match o with
        | 0 => rfl
        | 1 => rfl
        | 2 => rfl
        | 3 => rfl
        | 4 => rfl
        | 5 => rfl
      have f := hfin (a.code ++ b.code ++ [opI o])
      simp only [List.map_append, List.map_cons, List.map_nil, eo, List.append_assoc] at f
      simp [Ex.a, Ex.code, ea, eb, opAdd_lst, z, z2, eo]
      exact f
end K02
end
section
set_option Elab.async false
set_option linter.all false
set_option maxRecDepth 100000
set_option maxHeartbeats 4000000
set_option autoImplicit false
/-! drawn statements and trees. -/
namespace K02
open PySem PySem.Spec PyProof.Rows L2 VM
inductive S0 where
  | set (i : Fin 4) (e : Ex) | say (e : Ex) | make (e : Ex) | first | cut
def S0.a : S0 → A
  | .set i e => .tup [.str "set", .int i.val, e.a]
  | .say e => .tup [.str "say", e.a]
  | .make e => .tup [.str "make", e.a]
  | .first => .tup [.str "first"]
  | .cut => .tup [.str "cut"]
def S0.ok : S0 → Prop
  | .set _ e => e.ok ∧ e.dep ≤ 2
  | .say e => e.ok ∧ e.dep ≤ 2
  | .make e => e.ok ∧ e.dep ≤ 2
  | .first => True
  | .cut => True
def S0.code : S0 → List Ins
  | .set i e => e.code ++ [.store ⟨i.val, by omega⟩]
  | .say e => e.code ++ [.say]
  | .make e => e.code ++ [.load 4, .callP, .store 4]
  | .first => [.load 4, .get 0, .say]
  | .cut => [.load 4, .get 1, .store 4]
inductive S1 where
  | flat (s : S0) | ite (e : Ex) (l : List S0) | loop (w : Fin 4) (l : List S0)
def S1.a : S1 → A
  | .flat s => s.a
  | .ite e l => .tup [.str "if", e.a, .lst (l.map S0.a)]
  | .loop w l => .tup [.str "loop", .tup [.str "num", .int w.val], .lst (l.map S0.a)]
def S1.ok : S1 → Prop
  | .flat s => s.ok
  | .ite e l => e.ok ∧ e.dep ≤ 2 ∧ (∀ s ∈ l, s.ok) ∧ l.length ≤ 2
  | .loop _ l => (∀ s ∈ l, s.ok) ∧ l.length ≤ 2
def code0 (l : List S0) : List Ins := l.flatMap S0.code
def S1.code : S1 → Nat → List Ins
  | .flat s, _ => s.code
  | .ite e l, at_ => e.code ++ [.branch ((at_ + e.code.length + 2 : Nat) : Int), .jump ((at_ + e.code.length + 2 + (code0 l).length : Nat) : Int)] ++ code0 l
  | .loop w l, at_ => [.push w.val, .store 5] ++ [.load 5, .branch ((at_ + 2 + 3 : Nat) : Int), .jump ((at_ + 2 + 3 + (code0 l).length + 5 : Nat) : Int)] ++ code0 l ++ [.load 5, .push 1, .sub, .store 5, .jump ((at_ + 2 : Nat) : Int)]
theorem closed_s0 (s : S0) : closed s.a = true := by cases s <;> simp [S0.a, closed_ex]
theorem closed_s0s : ∀ l : List S0, closedL (l.map S0.a) = true
  | [] => rfl
  | x :: l => by show (closed x.a && _) = true; rw [closed_s0, closed_s0s l]; rfl
theorem closed_s1 (s : S1) : closed s.a = true := by cases s <;> simp [S1.a, closed_s0, closed_ex, closed_s0s]
theorem closed_s1s : ∀ l : List S1, closedL (l.map S1.a) = true
  | [] => rfl
  | x :: l => by show (closed x.a && _) = true; rw [closed_s1, closed_s1s l]; rfl
/-- a comprehension that draws -/
theorem lcL_draw {α : Type} (enc : α → A) (P : α → Prop) (g : CG) (el : C) (e0 : Slots) (r : DRw) (c lim : Nat)
    (h : ∀ (x : A) (k : Nat), k + c ≤ lim → ∃ y k', P y ∧ k' ≤ k + c ∧ turnC g cYes el e0 x (stD r k) = .ok (some (enc y)) (stD r k')) :
    ∀ (xs : List A) (acc : List A) (k : Nat), acc.length + xs.length ≤ 1000 → k + xs.length * c ≤ lim →
      ∃ (ys : List α) (k' : Nat), ys.length = xs.length ∧ (∀ y ∈ ys, P y) ∧ k' ≤ k + xs.length * c ∧ lcL g cYes el e0 xs acc (stD r k) = .ok (acc ++ ys.map enc) (stD r k')
  | [], acc, k, _, _ => ⟨[], k, rfl, (fun y hy => by cases hy), by simp, by simp [lcL]⟩
  | x :: xs, acc, k, hl, hk => by
    simp only [List.length_cons] at hl hk ⊢
    have hm : (xs.length + 1) * c = xs.length * c + c := Nat.succ_mul _ _
    obtain ⟨y, k1, p1, l1, e1⟩ := h x k (by omega)
    obtain ⟨ys, k2, p2, p3, l2, e2⟩ := lcL_draw enc P g el e0 r c lim h xs (acc ++ [enc y]) k1 (by simp; omega) (by omega)
    refine ⟨y :: ys, k2, by simp [p2], fun z hz => ?_, by omega, ?_⟩
    · rcases List.mem_cons.mp hz with rfl | hz
      · exact p1
      · exact p3 z hz
    · have ha : acc.length < 16777216 := by omega
      unfold lcL
      rw [e1]
      simp only [if_pos ha, e2]
      simp
theorem rgN_len (k m : Nat) : (rgN k m).length = m := by simp [rgN]
theorem stmt0_ok (r : DRw) (t : Int) (n k : Nat) (hk : k + 100 ≤ 900000) :
    ∃ (s : S0) (k' : Nat), s.ok ∧ k' ≤ k + 100 ∧ m_law_statement (n + 1) [dA t, .int 0] (stD r k) = .ok s.a (stD r k') := by
  obtain ⟨c, c1, c2, ec⟩ := take_ok r t k 10 (by decide) (by omega)
  unfold m_law_statement
  by_cases h4 : c < 4
  · obtain ⟨v, v1, v2, ev⟩ := take_ok r t (k + 1) 4 (by decide) (by omega)
    obtain ⟨u, u1, u2, eu⟩ := take_ok r t (k + 1 + 1) 2 (by decide) (by omega)
    obtain ⟨d, hd⟩ : ∃ n : Nat, 1 + u = n := ⟨(1 + u).toNat, by omega⟩
    have hp : 4 ^ (d + 1) ≤ 64 := by have := Nat.pow_le_pow_right (n := 4) (by decide) (show d + 1 ≤ 3 by omega); simpa using this
    obtain ⟨e, k3, p1, p2, p3, ee⟩ := expr_ok r t 4 (by decide) 4 d (k + 1 + 1 + 1) (by omega) (by omega)
    obtain ⟨v, rfl⟩ : ∃ n : Nat, v = n := ⟨v.toNat, by omega⟩
    refine ⟨.set ⟨v, by omega⟩ e, k3, ⟨p1, by omega⟩, by omega, ?_⟩
    by_cases h2 : c < 2
    · simp [ec, h4, h2, ev, eu, hd, ee, S0.a]
    · simp [ec, h4, h2, ev, eu, hd, ee, S0.a]
  · have h2 : ¬ (c < 2) := by omega
    by_cases h7 : c < 7
    · obtain ⟨u, u1, u2, eu⟩ := take_ok r t (k + 1) 2 (by decide) (by omega)
      obtain ⟨d, hd⟩ : ∃ n : Nat, 1 + u = n := ⟨(1 + u).toNat, by omega⟩
      have hp : 4 ^ (d + 1) ≤ 64 := by have := Nat.pow_le_pow_right (n := 4) (by decide) (show d + 1 ≤ 3 by omega); simpa using this
      obtain ⟨e, k3, p1, p2, p3, ee⟩ := expr_ok r t 4 (by decide) 4 d (k + 1 + 1) (by omega) (by omega)
      refine ⟨.say e, k3, ⟨p1, by omega⟩, by omega, ?_⟩
      simp [ec, h4, h2, h7, eu, hd, ee, S0.a]
    · by_cases h8 : c = 7
      · obtain ⟨e, k3, p1, p2, p3, ee⟩ := expr_ok r t 4 (by decide) 4 1 (k + 1) (by omega) (by omega)
        have ee' : m_law_expr 4 [dA t, A.int 1, A.int 4] (stD r (k + 1)) = .ok e.a (stD r k3) := ee
        have e16 : 4 ^ (1 + 1) = 16 := rfl
        subst h8
        refine ⟨.make e, k3, ⟨p1, by omega⟩, by omega, ?_⟩
        simp [ec, ee', S0.a]
      · by_cases h9 : c = 8
        · subst h9
          refine ⟨.first, k + 1, trivial, by omega, ?_⟩
          simp [ec, S0.a]
        · have h10 : c = 9 := by omega
          subst h10
          refine ⟨.cut, k + 1, trivial, by omega, ?_⟩
          simp [ec, S0.a]
theorem stmt1_ok (r : DRw) (t : Int) (n k : Nat) (hk : k + 400 ≤ 900000) :
    ∃ (s : S1) (k' : Nat), s.ok ∧ k' ≤ k + 400 ∧ m_law_statement (n + 2) [dA t, .int 1] (stD r k) = .ok s.a (stD r k') := by
  obtain ⟨c, c1, c2, ec⟩ := take_ok r t k 10 (by decide) (by omega)
  unfold m_law_statement
  by_cases h2 : c < 2
  · obtain ⟨v, v1, v2, ev⟩ := take_ok r t (k + 1) 2 (by decide) (by omega)
    obtain ⟨m, hm⟩ : ∃ n : Nat, 1 + v = n := ⟨(1 + v).toNat, by omega⟩
    have er := items_rg m (by omega)
    obtain ⟨l, k2, l1, l2, l3, el⟩ := lcL_draw S0.a S0.ok (gN 5) (cApp (m_law_statement (n + 1)) (cCons (cVar 0) (cCons (VM.c2 opSub (cVar 1) (cC (.int 1))) cNil)))
      [some (dA t), some (.int 1), some (.int c), some (.str (if c = 0 then "if" else "loop")), none, none] r 100 900000 (fun x k hk => by
        obtain ⟨s, k', s1, s2, es⟩ := stmt0_ok r t n k hk
        exact ⟨s, k', s1, s2, by simp [turnC, cYes, es]⟩) (rgN 0 m) [] (k + 1 + 1) (by simp [rgN_len]; omega) (by simp only [rgN_len]; omega)
    rw [rgN_len] at l1 l3
    by_cases h0 : c = 0
    · subst h0
      obtain ⟨e, k3, p1, p2, p3, ee⟩ := expr_ok r t 4 (by decide) 4 1 k2 (by omega) (by have : 4 ^ (1 + 1) = 16 := rfl; omega)
      have ee' : m_law_expr 4 [dA t, A.int 1, A.int 4] (stD r k2) = .ok e.a (stD r k3) := ee
      have e16 : 4 ^ (1 + 1) = 16 := rfl
      refine ⟨.ite e l, k3, ⟨p1, by omega, l2, by omega⟩, by omega, ?_⟩
      simp only [if_true] at el
      generalize rgN 0 m = xs at er el
      simp [ec, ev, hm, er, el, ee', S1.a]
    · have h1 : c = 1 := by omega
      subst h1
      obtain ⟨v, v1, v2, ev2⟩ := take_ok r t k2 3 (by decide) (by omega)
      obtain ⟨w, hw⟩ : ∃ n : Nat, 1 + v = n := ⟨(1 + v).toNat, by omega⟩
      refine ⟨.loop ⟨w, by omega⟩ l, k2 + 1, ⟨l2, by omega⟩, by omega, ?_⟩
      simp only [if_neg h0] at el
      generalize rgN 0 m = xs at er el
      simp [ec, ev, hm, er, el, ev2, hw, S1.a]
  by_cases h4 : c < 4
  · obtain ⟨v, v1, v2, ev⟩ := take_ok r t (k + 1) 4 (by decide) (by omega)
    obtain ⟨u, u1, u2, eu⟩ := take_ok r t (k + 1 + 1) 2 (by decide) (by omega)
    obtain ⟨d, hd⟩ : ∃ n : Nat, 1 + u = n := ⟨(1 + u).toNat, by omega⟩
    have hp : 4 ^ (d + 1) ≤ 64 := by have := Nat.pow_le_pow_right (n := 4) (by decide) (show d + 1 ≤ 3 by omega); simpa using this
    obtain ⟨e, k3, p1, p2, p3, ee⟩ := expr_ok r t 4 (by decide) 4 d (k + 1 + 1 + 1) (by omega) (by omega)
    obtain ⟨v, rfl⟩ : ∃ n : Nat, v = n := ⟨v.toNat, by omega⟩
    refine ⟨.flat (.set ⟨v, by omega⟩ e), k3, ⟨p1, by omega⟩, by omega, ?_⟩
    simp [ec, h4, h2, ev, eu, hd, ee, S1.a, S0.a]
  · by_cases h7 : c < 7
    · obtain ⟨u, u1, u2, eu⟩ := take_ok r t (k + 1) 2 (by decide) (by omega)
      obtain ⟨d, hd⟩ : ∃ n : Nat, 1 + u = n := ⟨(1 + u).toNat, by omega⟩
      have hp : 4 ^ (d + 1) ≤ 64 := by have := Nat.pow_le_pow_right (n := 4) (by decide) (show d + 1 ≤ 3 by omega); simpa using this
      obtain ⟨e, k3, p1, p2, p3, ee⟩ := expr_ok r t 4 (by decide) 4 d (k + 1 + 1) (by omega) (by omega)
      refine ⟨.flat (.say e), k3, ⟨p1, by omega⟩, by omega, ?_⟩
      simp [ec, h4, h2, h7, eu, hd, ee, S1.a, S0.a]
    · by_cases h8 : c = 7
      · obtain ⟨e, k3, p1, p2, p3, ee⟩ := expr_ok r t 4 (by decide) 4 1 (k + 1) (by omega) (by omega)
        have ee' : m_law_expr 4 [dA t, A.int 1, A.int 4] (stD r (k + 1)) = .ok e.a (stD r k3) := ee
        have e16 : 4 ^ (1 + 1) = 16 := rfl
        subst h8
        refine ⟨.flat (.make e), k3, ⟨p1, by omega⟩, by omega, ?_⟩
        simp [ec, ee', S1.a, S0.a]
      · by_cases h9 : c = 8
        · subst h9
          refine ⟨.flat .first, k + 1, trivial, by omega, ?_⟩
          simp [ec, S1.a, S0.a]
        · have h10 : c = 9 := by omega
          subst h10
          refine ⟨.flat .cut, k + 1, trivial, by omega, ?_⟩
          simp [ec, S1.a, S0.a]
end K02
end
section
set_option Elab.async false
set_option linter.all false
set_option maxRecDepth 100000
set_option maxHeartbeats 4000000
set_option autoImplicit false
/-! the codes of statements and trees. -/
namespace K02
open PySem PySem.Spec PyProof.Rows L2 VM
theorem ex_len2 (e : Ex) (h : e.dep ≤ 2) : e.code.length ≤ 7 := by
  have h1 := ex_len e
  have h2 : 2 ^ (e.dep + 1) ≤ 2 ^ 3 := Nat.pow_le_pow_right (by decide) (by omega)
  omega
theorem s0_len (s : S0) (h : s.ok) : s.code.length ≤ 10 := by
  cases s with
  | set i e => have := ex_len2 e h.2; simp [S0.code]; omega
  | say e => have := ex_len2 e h.2; simp [S0.code]; omega
  | make e => have := ex_len2 e h.2; simp [S0.code]; omega
  | first => simp [S0.code]
  | cut => simp [S0.code]
theorem code0_len : ∀ (l : List S0), (∀ s ∈ l, s.ok) → (code0 l).length ≤ 10 * l.length
  | [], _ => by simp [code0]
  | s :: l, h => by
    have h1 := s0_len s (h s List.mem_cons_self)
    have h2 := code0_len l (fun x hx => h x (List.mem_cons_of_mem _ hx))
    simp only [code0, List.flatMap_cons, List.length_append, List.length_cons] at h2 ⊢
    omega
theorem s1_len (s : S1) (k : Nat) (h : s.ok) : (s.code k).length ≤ 40 := by
  cases s with
  | flat s => have := s0_len s h; simp only [S1.code]; omega
  | ite e l =>
    obtain ⟨h1, h2, h3, h4⟩ := h
    have := ex_len2 e h2
    have := code0_len l h3
    simp [S1.code]; omega
  | loop w l =>
    obtain ⟨h3, h4⟩ := h
    have := code0_len l h3
    simp [S1.code]; omega
theorem s0_code_ok (n : Nat) (s : S0) (k : Nat) (hs : s.ok) (S : Store) : m_law_statement_code (n + 1) [s.a, .int (k : Nat)] S = .ok (.lst (s.code.map Ins.e)) S := by
  unfold m_law_statement_code
  rw [pureF_ap _ _ (by simp [closed_s0])]
  have hfin : ∀ c : List Ins, (R.ok (A.lst (c.map Ins.e)) []).pu S = .ok (.lst (c.map Ins.e)) S := fun c => pu_ok (closed_inss c)
  have f := hfin s.code
  cases s with
  | set i e =>
    have ee := code_ok 5 e [] (by have := hs.2; omega) (by have := hs.2; omega)
    have hl := ex_len2 e hs.2
    have z : e.code.length + 1 ≤ 16777216 := by omega
    simp [S0.code, Ins.e] at f
    simp [S0.a, S0.code, ee, opAdd_lst, z, Ins.e]
    exact f
  | say e =>
    have ee := code_ok 5 e [] (by have := hs.2; omega) (by have := hs.2; omega)
    have hl := ex_len2 e hs.2
    have z : e.code.length + 1 ≤ 16777216 := by omega
    simp [S0.code, Ins.e] at f
    simp [S0.a, S0.code, ee, opAdd_lst, z, Ins.e]
    exact f
  | make e =>
    have ee := code_ok 5 e [] (by have := hs.2; omega) (by have := hs.2; omega)
    have hl := ex_len2 e hs.2
    have z : e.code.length + 3 ≤ 16777216 := by omega
    simp [S0.code, Ins.e] at f
    simp [S0.a, S0.code, ee, opAdd_lst, z, Ins.e]
    exact f
  | first =>
    simp [S0.code, Ins.e] at f
    simp [S0.a, S0.code, Ins.e]
    exact f
  | cut =>
    simp [S0.code, Ins.e] at f
    simp [S0.a, S0.code, Ins.e]
    exact f
abbrev bodyS (n : Nat) : CS := sSet 2 (c2 opAdd (cVar 2) (cApp (m_law_statement_code n) (cCons (cVar 3) (cCons (c2 opAdd (cVar 1) (cApp opLen (cCons (cVar 2) cNil))) cNil))))
theorem body0_loop (n at_ : Nat) : ∀ (l : List S0) (acc : List Ins) (e0 e3 : Option A), (∀ s ∈ l, s.ok) → acc.length + 10 * l.length ≤ 1000 →
    loopL (gN 3) (bodyS (n + 1)) [0, 3] (l.map S0.a) [e0, some (.int (at_ : Nat)), some (.lst (acc.map Ins.e)), e3] [] =
      .nx [none, some (.int (at_ : Nat)), some (.lst ((acc ++ code0 l).map Ins.e)), none] []
  | [], acc, e0, e3, _, _ => by simp [code0]
  | s :: l, acc, e0, e3, hs, hl => by
    simp only [List.length_cons] at hl
    have h1 := s0_len s (hs s List.mem_cons_self)
    have ih := body0_loop n at_ l (acc ++ s.code) none (some s.a) (fun x hx => hs x (List.mem_cons_of_mem _ hx)) (by simp; omega)
    obtain ⟨q, e1⟩ : ∃ q : Nat, ((at_ : Int) + (acc.length : Int)) = (q : Int) := ⟨at_ + acc.length, by omega⟩
    have ec := s0_code_ok n s q (hs s List.mem_cons_self) []
    have z : acc.length + s.code.length ≤ 16777216 := by omega
    have ecd : acc ++ code0 (s :: l) = acc ++ s.code ++ code0 l := by simp [code0]
    rw [ecd, ← ih, List.map_cons, loopL_cons]
    generalize loopL (gN 3) (bodyS (n + 1)) [0, 3] (l.map S0.a) = W
    simp [e1, ec, opAdd_lst, z]
theorem body0_ok (n at_ : Nat) (l : List S0) (hs : ∀ s ∈ l, s.ok) (hl : l.length ≤ 50) (S : Store) : m_law_body_code (n + 2) [.lst (l.map S0.a), .int (at_ : Nat)] S = .ok (.lst ((code0 l).map Ins.e)) S := by
  unfold m_law_body_code
  rw [pureF_ap _ _ (by simp [closed_s0s])]
  have e := body0_loop n at_ l [] (some (.lst (l.map S0.a))) none hs (by simp; omega)
  simp only [List.map_nil] at e
  have hfin : ∀ c : List Ins, (R.ok (A.lst (c.map Ins.e)) []).pu S = .ok (.lst (c.map Ins.e)) S := fun c => pu_ok (closed_inss c)
  unfold bodyS at e
  generalize hW : l.map S0.a = W at e ⊢
  simp [e]
  exact hfin _
theorem s1_code_ok (n : Nat) (s : S1) (k : Nat) (hs : s.ok) (S : Store) : m_law_statement_code (n + 3) [s.a, .int (k : Nat)] S = .ok (.lst ((s.code k).map Ins.e)) S := by
  cases s with
  | flat s => exact s0_code_ok (n + 2) s k hs S
  | ite e l =>
    unfold m_law_statement_code
    rw [pureF_ap _ _ (by simp [S1.a, closed_s0s, closed_ex])]
    have hfin : ∀ c : List Ins, (R.ok (A.lst (c.map Ins.e)) []).pu S = .ok (.lst (c.map Ins.e)) S := fun c => pu_ok (closed_inss c)
    obtain ⟨h1, h2, h3, h4⟩ := hs
    have ee := code_ok 5 e [] (by omega) (by omega)
    have l1 := ex_len2 e h2
    have l2 := code0_len l h3
    have f := hfin ((S1.ite e l).code k)
    simp only [S1.code] at f ⊢
    obtain ⟨q, hq⟩ : ∃ q : Nat, k + e.code.length + 2 = q := ⟨_, rfl⟩
    obtain ⟨p, hp⟩ : ∃ p : Nat, q + (code0 l).length = p := ⟨_, rfl⟩
    have e1 : ((k : Int) + (e.code.length : Int) + 2) = (q : Int) := by omega
    have e2 : ((q : Int) + ((code0 l).length : Int)) = (p : Int) := by omega
    have eb := body0_ok n q l h3 (by omega) []
    have z1 : e.code.length + 2 ≤ 16777216 := by omega
    have z2 : e.code.length + 2 + (code0 l).length ≤ 16777216 := by omega
    have z3 : e.code.length + ((code0 l).length + 2) ≤ 16777216 := by omega
    have z4 : e.code.length + ((code0 l).length + 1 + 1) ≤ 16777216 := by omega
    rw [hq, hp] at f ⊢
    simp only [List.map_append, List.map_cons, List.map_nil, Ins.e, List.append_assoc] at f
    simp [S1.a, ee, e1, e2, eb, opAdd_lst, z1, z2, z3, z4, Ins.e]
    exact f
  | loop w l =>
    unfold m_law_statement_code
    rw [pureF_ap _ _ (by simp [S1.a, closed_s0s])]
    have hfin : ∀ c : List Ins, (R.ok (A.lst (c.map Ins.e)) []).pu S = .ok (.lst (c.map Ins.e)) S := fun c => pu_ok (closed_inss c)
    obtain ⟨h3, h4⟩ := hs
    have ee := code_ok 5 (.num w.val) [] (by simp [Ex.dep]) (by simp [Ex.dep])
    have l2 := code0_len l h3
    have f := hfin ((S1.loop w l).code k)
    simp only [S1.code] at f ⊢
    obtain ⟨t, ht⟩ : ∃ q : Nat, k + 2 = q := ⟨_, rfl⟩
    obtain ⟨q, hq⟩ : ∃ q : Nat, t + 3 = q := ⟨_, rfl⟩
    obtain ⟨p, hp⟩ : ∃ p : Nat, q + (code0 l).length + 5 = p := ⟨_, rfl⟩
    have e0 : ((k : Int) + 2) = (t : Int) := by omega
    have e1 : ((t : Int) + 3) = (q : Int) := by omega
    have e2 : ((q : Int) + ((code0 l).length : Int) + 5) = (p : Int) := by omega
    have eb := body0_ok n q l h3 (by omega) []
    have z1 : (code0 l).length + 5 ≤ 16777216 := by omega
    have z2 : (code0 l).length + 5 + 5 ≤ 16777216 := by omega
    have z3 : (code0 l).length + 1 + 1 + 1 + 1 + 1 ≤ 16777216 := by omega
    have z4 : (code0 l).length + 10 ≤ 16777216 := by omega
    have z5 : 5 + (code0 l).length ≤ 16777216 := by omega
    have z6 : 5 + ((code0 l).length + 5) ≤ 16777216 := by omega
    have z7 : (code0 l).length + 1 + 1 + 1 + 1 + 1 + 5 ≤ 16777216 := by omega
    rw [ht, hq, hp] at f ⊢
    simp only [List.map_append, List.map_cons, List.map_nil, Ins.e, List.append_assoc] at f
    simp only [Ex.a, Ex.code, List.map_cons, List.map_nil, Ins.e] at ee
    simp [S1.a, ee, e0, e1, e2, eb, opAdd_lst, z1, z2, z3, z4, z5, z6, z7, Ins.e]
    exact f
end K02
end
section
set_option Elab.async false
set_option linter.all false
set_option maxRecDepth 100000
set_option maxHeartbeats 4000000
set_option autoImplicit false
/-! bodies, trees. -/
namespace K02
open PySem PySem.Spec PyProof.Rows L2 VM
def body1 : List S1 → Nat → List Ins
  | [], _ => []
  | s :: l, k => s.code k ++ body1 l (k + (s.code k).length)
theorem body1_len : ∀ (l : List S1) (k : Nat), (∀ s ∈ l, s.ok) → (body1 l k).length ≤ 40 * l.length
  | [], k, _ => by simp [body1]
  | s :: l, k, h => by
    have h1 := s1_len s k (h s List.mem_cons_self)
    have h2 := body1_len l (k + (s.code k).length) (fun x hx => h x (List.mem_cons_of_mem _ hx))
    simp only [body1, List.length_append, List.length_cons]
    omega
theorem body1_loop (n : Nat) : ∀ (l : List S1) (acc : List Ins) (e0 e3 : Option A), (∀ s ∈ l, s.ok) → acc.length + 40 * l.length ≤ 1000 →
    loopL (gN 3) (bodyS (n + 3)) [0, 3] (l.map S1.a) [e0, some (.int 0), some (.lst (acc.map Ins.e)), e3] [] =
      .nx [none, some (.int 0), some (.lst ((acc ++ body1 l acc.length).map Ins.e)), none] []
  | [], acc, e0, e3, _, _ => by simp [body1]
  | s :: l, acc, e0, e3, hs, hl => by
    simp only [List.length_cons] at hl
    have h1 := s1_len s acc.length (hs s List.mem_cons_self)
    have ih := body1_loop n l (acc ++ s.code acc.length) none (some s.a) (fun x hx => hs x (List.mem_cons_of_mem _ hx)) (by simp; omega)
    have ec := s1_code_ok n s acc.length (hs s List.mem_cons_self) []
    have z : acc.length + (s.code acc.length).length ≤ 16777216 := by omega
    have ecd : acc ++ body1 (s :: l) acc.length = acc ++ s.code acc.length ++ body1 l (acc ++ s.code acc.length).length := by simp [body1]
    rw [ecd, ← ih, List.map_cons, loopL_cons]
    generalize loopL (gN 3) (bodyS (n + 3)) [0, 3] (l.map S1.a) = W
    simp [ec, opAdd_lst, z]
theorem body1_ok (n : Nat) (l : List S1) (hs : ∀ s ∈ l, s.ok) (hl : l.length ≤ 20) (S : Store) : m_law_body_code (n + 4) [.lst (l.map S1.a), .int 0] S = .ok (.lst ((body1 l 0).map Ins.e)) S := by
  unfold m_law_body_code
  rw [pureF_ap _ _ (by simp [closed_s1s])]
  have e := body1_loop n l [] (some (.lst (l.map S1.a))) none hs (by simp; omega)
  simp only [List.map_nil] at e
  have hfin : ∀ c : List Ins, (R.ok (A.lst (c.map Ins.e)) []).pu S = .ok (.lst (c.map Ins.e)) S := fun c => pu_ok (closed_inss c)
  unfold bodyS at e
  generalize hW : l.map S1.a = W at e ⊢
  simp [e]
  exact hfin _
structure Tr where
  f : Ex
  b : List S1
  l : Ex
def Tr.a (t : Tr) : A := .tup [t.f.a, .lst (t.b.map S1.a), t.l.a]
def Tr.main (t : Tr) : List Ins := body1 t.b 0 ++ t.l.code ++ [.ret]
structure Tr.ok (t : Tr) : Prop where
  f : t.f.ok
  fd : t.f.dep ≤ 2
  b : ∀ s ∈ t.b, s.ok
  bl : t.b.length ≤ 4
  l : t.l.ok
  ld : t.l.dep ≤ 2
@[simp] theorem closed_tr (t : Tr) : closed t.a = true := by simp [Tr.a, closed_ex, closed_s1s]
theorem main_ok (t : Tr) (h : t.ok) (S : Store) : m_law_main_code [t.a] S = .ok (.lst (t.main.map Ins.e)) S := by
  unfold m_law_main_code
  rw [pureF_ap _ _ (by simp)]
  have hb := body1_ok 2 t.b h.b (by have := h.bl; omega) []
  have hl := code_ok 5 t.l [] (by have := h.ld; omega) (by have := h.ld; omega)
  have l1 := body1_len t.b 0 h.b
  have l2 := ex_len2 t.l h.ld
  have l3 := h.bl
  have z1 : (body1 t.b 0).length + t.l.code.length ≤ 16777216 := by omega
  have z2 : (body1 t.b 0).length + t.l.code.length + 1 ≤ 16777216 := by omega
  have z3 : (body1 t.b 0).length + (t.l.code.length + 1) ≤ 16777216 := by omega
  have f : (R.ok (A.lst (t.main.map Ins.e)) []).pu S = .ok (.lst (t.main.map Ins.e)) S := pu_ok (closed_inss _)
  simp [Tr.main, Ins.e] at f
  simp [b_law_main_code, Tr.a, hb, hl, opAdd_lst, z1, z2, z3, Tr.main, Ins.e]
  exact f
def trim : Nat → Tr → Tr
  | 0, t => t
  | n + 1, t => trim n (if 58 < t.main.length then ⟨t.f, t.b.dropLast, t.l⟩ else t)
theorem Tr.ok.cut {t : Tr} (h : t.ok) : Tr.ok ⟨t.f, t.b.dropLast, t.l⟩ where
  f := h.f
  fd := h.fd
  b := fun s hs => h.b s ((List.dropLast_sublist t.b).subset hs)
  bl := by have := h.bl; show t.b.dropLast.length ≤ 4; rw [List.length_dropLast]; omega
  l := h.l
  ld := h.ld
theorem trim_okk : ∀ (n : Nat) (t : Tr), t.ok → (trim n t).ok
  | 0, t, h => h
  | n + 1, t, h => by
    unfold trim
    by_cases z : 58 < t.main.length
    · rw [if_pos z]; exact trim_okk n _ h.cut
    · rw [if_neg z]; exact trim_okk n _ h
theorem trim_len : ∀ (n : Nat) (t : Tr), t.ok → (trim n t).main.length ≤ 58 ∨ (trim n t).b.length + n ≤ t.b.length
  | 0, t, h => .inr (by simp [trim])
  | n + 1, t, h => by
    unfold trim
    by_cases z : 58 < t.main.length
    · rw [if_pos z]
      by_cases e : t.b = []
      · refine absurd z ?_
        have := ex_len2 t.l h.ld
        simp [Tr.main, e, body1]; omega
      · rcases trim_len n _ h.cut with a | a
        · exact .inl a
        · refine .inr ?_
          have hp : 0 < t.b.length := List.length_pos_iff.mpr e
          simp only [List.length_dropLast] at a
          omega
    · rw [if_neg z]
      have hid : ∀ n, trim n t = t := fun n => by
        induction n with
        | zero => rfl
        | succ n ih => unfold trim; rw [if_neg z]; exact ih
      rw [hid]; exact .inl (by omega)
theorem trim6 (t : Tr) (h : t.ok) : (trim 6 t).main.length ≤ 58 := by
  rcases trim_len 6 t h with a | a
  · exact a
  · have := h.bl; omega
theorem tree_loop (r : DRw) (k : Nat) : ∀ (xs : List A) (t : Tr) (e0 e1 e3 e4 : Option A), t.ok →
    loopL (gN 3) b_law_tree_0 [0, 1, 3, 4] xs [e0, e1, some t.a, e3, e4] (stD r k) = .nx [none, none, some (trim xs.length t).a, none, none] (stD r k)
  | [], t, e0, e1, e3, e4, h => by simp [trim]
  | x :: xs, t, e0, e1, e3, e4, h => by
    have em := main_ok t h (stD r k)
    rw [loopL_cons]
    by_cases z : 58 < t.main.length
    · have ih := tree_loop r k xs ⟨t.f, t.b.dropLast, t.l⟩ none none (some x) none h.cut
      have et : trim (x :: xs).length t = trim xs.length ⟨t.f, t.b.dropLast, t.l⟩ := by rw [List.length_cons]; show trim xs.length (if _ then _ else _) = _; rw [if_pos z]
      rw [et, ← ih]
      have z' : (58 : Int) < (t.main.length : Int) := by omega
      have ec : cutA (t.b.map S1.a) none (some (-1)) = t.b.dropLast.map S1.a := by
        rw [cut_t1, List.length_map, ← List.map_take, List.dropLast_eq_take]
      generalize loopL (gN 3) b_law_tree_0 [0, 1, 3, 4] xs = W
      simp only [Tr.a] at em ⊢
      simp [b_law_tree_0, em, z', ec]
    · have ih := tree_loop r k xs t none none (some x) none h
      have et : trim (x :: xs).length t = trim xs.length t := by rw [List.length_cons]; show trim xs.length (if _ then _ else _) = _; rw [if_neg z]
      rw [et, ← ih]
      have z' : ¬ ((58 : Int) < (t.main.length : Int)) := by omega
      generalize loopL (gN 3) b_law_tree_0 [0, 1, 3, 4] xs = W
      simp only [Tr.a] at em ⊢
      simp [b_law_tree_0, em, z']
theorem tree_ok (r : DRw) (t : Int) (k : Nat) (hk : k + 2000 ≤ 900000) :
    ∃ (T : Tr) (k' : Nat), T.ok ∧ T.main.length ≤ 58 ∧ k' ≤ k + 2000 ∧ m_law_tree [dA t] (stD r k) = .ok T.a (stD r k') := by
  obtain ⟨v, v1, v2, ev⟩ := take_ok r t k 4 (by decide) (by omega)
  obtain ⟨m, hm⟩ : ∃ n : Nat, 1 + v = n := ⟨(1 + v).toNat, by omega⟩
  have er := items_rg m (by omega)
  obtain ⟨l, k2, l1, l2, l3, el⟩ := lcL_draw S1.a S1.ok (gN 4) (cApp (m_law_statement 3) (cCons (cVar 0) (cCons (cC (.int 1)) cNil)))
    [some (dA t), none, none, none, none] r 400 900000 (fun x k hk => by
      obtain ⟨s, k', s1, s2, es⟩ := stmt1_ok r t 1 k hk
      exact ⟨s, k', s1, s2, by simp [turnC, cYes, es]⟩) (rgN 0 m) [] (k + 1) (by simp [rgN_len]; omega) (by simp only [rgN_len]; omega)
  rw [rgN_len] at l1 l3
  obtain ⟨e, k3, p1, p2, p3, ee⟩ := expr_ok r t 2 (by decide) 4 2 k2 (by omega) (by have : 4 ^ (2 + 1) = 64 := rfl; omega)
  obtain ⟨e', k4, q1, q2, q3, ee'⟩ := expr_ok r t 4 (by decide) 4 1 k3 (by omega) (by have : 4 ^ (2 + 1) = 64 := rfl; have : 4 ^ (1 + 1) = 16 := rfl; omega)
  have h64 : 4 ^ (2 + 1) = 64 := rfl
  have h16 : 4 ^ (1 + 1) = 16 := rfl
  have f1 : m_law_expr 4 [dA t, .int 2, .int 2] (stD r k2) = .ok e.a (stD r k3) := ee
  have f2 : m_law_expr 4 [dA t, .int 1, .int 4] (stD r k3) = .ok e'.a (stD r k4) := ee'
  have ht : Tr.ok ⟨e, l, e'⟩ := ⟨p1, p2, l2, by show l.length ≤ 4; omega, q1, by show e'.dep ≤ 2; omega⟩
  have e6 := items_rg 6 (by omega)
  have el6 := tree_loop r k4 (rgN 0 6) ⟨e, l, e'⟩ (some (dA t)) (some (.lst (l.map S1.a))) none none ht
  rw [rgN_len] at el6
  refine ⟨trim 6 ⟨e, l, e'⟩, k4, trim_okk 6 _ ht, trim6 _ ht, by omega, ?_⟩
  have e6' : itemsR1 (.int 6) = pur (rgN 0 6) := e6
  unfold m_law_tree
  generalize rgN 0 m = xs at er el
  generalize rgN 0 6 = ys at e6' el6
  generalize trim 6 ⟨e, l, e'⟩ = T at el6 ⊢
  simp only [Tr.a] at el6
  simp [b_law_tree, b_law_tree_3, b_law_tree_2, b_law_tree_1, ev, hm, er, el, f1, f2, e6', el6]
  rfl
end K02
end
section
set_option Elab.async false
set_option linter.all false
set_option maxRecDepth 100000
set_option maxHeartbeats 4000000
set_option autoImplicit false
/-! the drawn function and its part. -/
namespace K02
open PySem PySem.Spec PyProof.Rows L2 VM
/-- a target in [0, hi], a word in range -/
def InR (hi : Nat) : Ins → Prop
  | .jump t | .branch t => 0 ≤ t ∧ t ≤ hi
  | .push w => isW w
  | _ => True
theorem InR.mono {a b : Nat} (h : a ≤ b) {i : Ins} (z : InR a i) : InR b i := by
  cases i <;> simp only [InR] at z ⊢ <;> first | trivial | exact z | omega
theorem InR.insOk {a : Nat} (h : a < 60) {i : Ins} (z : InR a i) : insOk i := by
  cases i <;> simp only [InR, K02.insOk, isW] at z ⊢ <;> first | trivial | exact z | omega
theorem ex_in (hi : Nat) : ∀ (e : Ex), e.ok → ∀ i ∈ e.code, InR hi i
  | .num w, h, i, hm => by simp [Ex.code] at hm; subst hm; exact h
  | .var v, h, i, hm => by simp [Ex.code] at hm; subst hm; exact trivial
  | .call a b, h, i, hm => by
    simp only [Ex.code, List.mem_append, List.mem_cons, List.not_mem_nil, or_false] at hm
    rcases hm with (hm | hm) | rfl
    · exact ex_in hi a h.1 i hm
    · exact ex_in hi b h.2 i hm
    · exact trivial
  | .bin o a b, h, i, hm => by
    simp only [Ex.code, List.mem_append, List.mem_cons, List.not_mem_nil, or_false] at hm
    rcases hm with (hm | hm) | rfl
    · exact ex_in hi a h.1 i hm
    · exact ex_in hi b h.2 i hm
    · match o with
      | 0 => exact trivial
      | 1 => exact trivial
      | 2 => exact trivial
      | 3 => exact trivial
      | 4 => exact trivial
      | 5 => exact trivial
theorem s0_in (hi : Nat) (s : S0) (h : s.ok) : ∀ i ∈ s.code, InR hi i := by
  intro i hm
  cases s with
  | set v e =>
    simp only [S0.code, List.mem_append, List.mem_cons, List.not_mem_nil, or_false] at hm
    rcases hm with hm | rfl
    · exact ex_in hi e h.1 i hm
    · exact trivial
  | say e =>
    simp only [S0.code, List.mem_append, List.mem_cons, List.not_mem_nil, or_false] at hm
    rcases hm with hm | rfl
    · exact ex_in hi e h.1 i hm
    · exact trivial
  | make e =>
    simp only [S0.code, List.mem_append, List.mem_cons, List.not_mem_nil, or_false] at hm
    rcases hm with hm | rfl | rfl | rfl
    · exact ex_in hi e h.1 i hm
    all_goals exact trivial
  | first =>
    simp only [S0.code, List.mem_cons, List.not_mem_nil, or_false] at hm
    rcases hm with rfl | rfl | rfl <;> exact trivial
  | cut =>
    simp only [S0.code, List.mem_cons, List.not_mem_nil, or_false] at hm
    rcases hm with rfl | rfl | rfl <;> exact trivial
theorem code0_in (hi : Nat) (l : List S0) (h : ∀ s ∈ l, s.ok) : ∀ i ∈ code0 l, InR hi i := by
  intro i hm
  obtain ⟨s, hs, hi'⟩ := List.mem_flatMap.mp hm
  exact s0_in hi s (h s hs) i hi'
theorem s1_in (s : S1) (k : Nat) (h : s.ok) : ∀ i ∈ s.code k, InR (k + (s.code k).length) i := by
  intro i hm
  cases s with
  | flat s => exact s0_in _ s h i hm
  | ite e l =>
    obtain ⟨h1, h2, h3, h4⟩ := h
    generalize hL : ((S1.ite e l).code k).length = L
    simp only [S1.code, List.length_append, List.length_cons, List.length_nil] at hL
    simp only [S1.code, List.mem_append, List.mem_cons, List.not_mem_nil, or_false] at hm
    rcases hm with (hm | rfl | rfl) | hm
    · exact ex_in _ e h1 i hm
    · simp only [InR]; omega
    · simp only [InR]; omega
    · exact code0_in _ l h3 i hm
  | loop w l =>
    obtain ⟨h3, h4⟩ := h
    generalize hL : ((S1.loop w l).code k).length = L
    simp only [S1.code, List.length_append, List.length_cons, List.length_nil] at hL
    simp only [S1.code, List.mem_append, List.mem_cons, List.not_mem_nil, or_false] at hm
    rcases hm with (((rfl | rfl) | rfl | rfl | rfl) | hm) | rfl | rfl | rfl | rfl | rfl
    · simp only [InR, isW]; have := w.isLt; omega
    · exact trivial
    · exact trivial
    · simp only [InR]; omega
    · simp only [InR]; omega
    · exact code0_in _ l h3 i hm
    · exact trivial
    · simp only [InR, isW]; omega
    · exact trivial
    · exact trivial
    · simp only [InR]; omega
theorem body1_in : ∀ (l : List S1) (k : Nat), (∀ s ∈ l, s.ok) → ∀ i ∈ body1 l k, InR (k + (body1 l k).length) i
  | [], k, _, i, hm => by cases hm
  | s :: l, k, h, i, hm => by
    simp only [body1, List.mem_append, List.length_append] at hm ⊢
    rcases hm with hm | hm
    · exact (s1_in s k (h s List.mem_cons_self) i hm).mono (by omega)
    · exact (body1_in l _ (fun x hx => h x (List.mem_cons_of_mem _ hx)) i hm).mono (by omega)
theorem main_in (t : Tr) (h : t.ok) : ∀ i ∈ t.main, InR t.main.length i := by
  intro i hm
  simp only [Tr.main, List.mem_append, List.mem_cons, List.not_mem_nil, or_false] at hm
  rcases hm with (hm | hm) | rfl
  · exact (body1_in t.b 0 h.b i hm).mono (by simp [Tr.main])
  · exact ex_in _ t.l h.l i hm
  · exact trivial
theorem wf_of {c : List Ins} (hl : c.length ≤ 60) (n : Nat) (hn : n < 60) (h : ∀ i ∈ c, InR n i) : WFc c := ⟨hl, fun i hi => (h i hi).insOk hn⟩
/-! parts -/
def libA (t : Tr) : A := .tup [.str "lib", .tup [.tup [.str "pair", pairF]], .tup [],
  .tup [.tup [.str "f", .tup [.str "int", .str "int"], .str "int", .tup [], codeA (t.f.code ++ [.ret])],
    .tup [.str "pair2", pairF, .str "lib.pair", .tup [.str "lib.pair"], codeA [.new, .store 2, .load 2, .load 0, .set 0, .load 2, .load 1, .set 1, .load 2, .ret]]],
  .tup [.str "f", .str "pair", .str "pair2"]]
@[simp] theorem closed_lib (t : Tr) : closed (libA t) = true := by simp [libA, pairF]
theorem parts_ok (t : Tr) (h : t.ok) (S : Store) : m_law_parts [t.a] S = .ok (.tup [libA t, partA t.main]) S := by
  unfold m_law_parts
  rw [pureF_ap _ _ (by simp)]
  have em := main_ok t h []
  have ef := code_ok 5 t.f [] (by have := h.fd; omega) (by have := h.fd; omega)
  have l1 := ex_len2 t.f h.fd
  have z1 : t.f.code.length + 1 ≤ 16777216 := by omega
  have f : (R.ok (A.tup [libA t, partA t.main]) []).pu S = .ok (.tup [libA t, partA t.main]) S := pu_ok (by simp)
  have e0 : opIx t.a (.int 0) [] = .ok t.f.a [] := by simp [Tr.a]
  simp [libA, partA, usesA, pairF, fnA, codeA, Ins.e] at f
  generalize t.a = ta at em e0 ⊢
  simp [b_law_parts, b_law_parts_7, b_law_parts_6, b_law_parts_5, b_law_parts_4, b_law_parts_3, b_law_parts_2, b_law_parts_1, b_law_parts_0, em, ef, e0, opAdd_lst, z1]
  simp [libA, partA, usesA, pairF, fnA, codeA, Ins.e]
  exact f
/-! drawn instructions -/
theorem drawn_ok (r : DRw) (t : Int) (k size : Nat) (hk : k < 900000) :
    ∃ (i : Ins) (k' : Nat), InR size i ∧ k' ≤ k + 10 ∧ m_law_drawn [dA t, .int (size : Nat)] (stD r k) = .ok i.e (stD r k') := by
  obtain ⟨c, q1, q2, ec⟩ := take_ok r t k 14 (by decide) (by omega)
  unfold m_law_drawn
  by_cases h3 : c < 3
  · obtain ⟨w, hw, ew⟩ := word_ok r t (k + 1) (by omega)
    refine ⟨.push w, k + 1 + 1, hw, by omega, ?_⟩
    simp [b_law_drawn, b_law_drawn_5, ec, h3, ew, Ins.e]
  by_cases h5 : c < 5
  · obtain ⟨x, hx, ex⟩ := pick_ok r t (k + 1) [.str "load", .str "store"] (by decide) (by omega)
    obtain ⟨v, v1, v2, ev⟩ := take_ok r t (k + 1 + 1) 6 (by decide) (by omega)
    obtain ⟨v, rfl⟩ : ∃ n : Nat, v = n := ⟨v.toNat, by omega⟩
    simp only [List.mem_cons, List.not_mem_nil, or_false] at hx
    rcases hx with rfl | rfl
    · refine ⟨.load ⟨v, by omega⟩, k + 1 + 1 + 1, trivial, by omega, ?_⟩
      simp [b_law_drawn, b_law_drawn_5, b_law_drawn_4, ec, h3, h5, ex, ev, Ins.e]
    · refine ⟨.store ⟨v, by omega⟩, k + 1 + 1 + 1, trivial, by omega, ?_⟩
      simp [b_law_drawn, b_law_drawn_5, b_law_drawn_4, ec, h3, h5, ex, ev, Ins.e]
  by_cases h6 : c = 5
  · subst h6
    obtain ⟨x, hx, ex⟩ := pick_ok r t (k + 1) [.str "jump", .str "branch"] (by decide) (by omega)
    obtain ⟨v, v1, v2, ev⟩ := take_ok r t (k + 1 + 1) ((size : Int) + 1) (by omega) (by omega)
    simp only [List.mem_cons, List.not_mem_nil, or_false] at hx
    rcases hx with rfl | rfl
    · refine ⟨.jump v, k + 1 + 1 + 1, ⟨v1, by omega⟩, by omega, ?_⟩
      simp [b_law_drawn, b_law_drawn_5, b_law_drawn_4, b_law_drawn_3, ec, ex, ev, Ins.e]
    · refine ⟨.branch v, k + 1 + 1 + 1, ⟨v1, by omega⟩, by omega, ?_⟩
      simp [b_law_drawn, b_law_drawn_5, b_law_drawn_4, b_law_drawn_3, ec, ex, ev, Ins.e]
  by_cases h7 : c = 6
  · subst h7
    obtain ⟨x, hx, ex⟩ := pick_ok r t (k + 1) [.str "get", .str "set"] (by decide) (by omega)
    obtain ⟨v, v1, v2, ev⟩ := take_ok r t (k + 1 + 1) 3 (by decide) (by omega)
    obtain ⟨v, rfl⟩ : ∃ n : Nat, v = n := ⟨v.toNat, by omega⟩
    simp only [List.mem_cons, List.not_mem_nil, or_false] at hx
    rcases hx with rfl | rfl
    · refine ⟨.get ⟨v, by omega⟩, k + 1 + 1 + 1, trivial, by omega, ?_⟩
      simp [b_law_drawn, b_law_drawn_5, b_law_drawn_4, b_law_drawn_3, b_law_drawn_2, ec, ex, ev, Ins.e]
    · refine ⟨.set ⟨v, by omega⟩, k + 1 + 1 + 1, trivial, by omega, ?_⟩
      simp [b_law_drawn, b_law_drawn_5, b_law_drawn_4, b_law_drawn_3, b_law_drawn_2, ec, ex, ev, Ins.e]
  by_cases h8 : c = 7
  · subst h8
    obtain ⟨x, hx, ex⟩ := pick_ok r t (k + 1) [.tup [.str "new", .str "lib.pair"], .tup [.str "nil", .str "lib.pair"], .tup [.str "nil", .str "ints"], .tup [.str "call", .str "lib.f"], .tup [.str "call", .str "lib.pair2"], .tup [.str "new", .str "lib.none"]] (by decide) (by omega)
    have : ∃ i : Ins, InR size i ∧ x = i.e := by
      simp only [List.mem_cons, List.not_mem_nil, or_false] at hx
      rcases hx with rfl | rfl | rfl | rfl | rfl | rfl
      · exact ⟨.new, trivial, rfl⟩
      · exact ⟨.nilP, trivial, rfl⟩
      · exact ⟨.nilI, trivial, rfl⟩
      · exact ⟨.callF, trivial, rfl⟩
      · exact ⟨.callP, trivial, rfl⟩
      · exact ⟨.newN, trivial, rfl⟩
    obtain ⟨i, hi, rfl⟩ := this
    refine ⟨i, k + 1 + 1, hi, by omega, ?_⟩
    simp [b_law_drawn, b_law_drawn_5, b_law_drawn_4, b_law_drawn_3, b_law_drawn_2, b_law_drawn_1, ec, ex]
  · obtain ⟨x, hx, ex⟩ := pick_ok r t (k + 1) [.str "add", .str "less", .str "drop", .str "dup", .str "return", .str "say", .str "row", .str "at", .str "put", .str "size", .str "isnil", .str "alike", .str "trap", .str "drop"] (by decide) (by omega)
    have : ∃ i : Ins, InR size i ∧ .tup [x] = i.e := by
      simp only [List.mem_cons, List.not_mem_nil, or_false] at hx
      rcases hx with rfl | rfl | rfl | rfl | rfl | rfl | rfl | rfl | rfl | rfl | rfl | rfl | rfl | rfl
      · exact ⟨.add, trivial, rfl⟩
      · exact ⟨.less, trivial, rfl⟩
      · exact ⟨.drop, trivial, rfl⟩
      · exact ⟨.dup, trivial, rfl⟩
      · exact ⟨.ret, trivial, rfl⟩
      · exact ⟨.say, trivial, rfl⟩
      · exact ⟨.row, trivial, rfl⟩
      · exact ⟨.at_, trivial, rfl⟩
      · exact ⟨.put, trivial, rfl⟩
      · exact ⟨.size, trivial, rfl⟩
      · exact ⟨.isnil, trivial, rfl⟩
      · exact ⟨.alike, trivial, rfl⟩
      · exact ⟨.trap, trivial, rfl⟩
      · exact ⟨.drop, trivial, rfl⟩
    obtain ⟨i, hi, e⟩ := this
    refine ⟨i, k + 1 + 1, hi, by omega, ?_⟩
    rw [← e]
    simp [b_law_drawn, b_law_drawn_5, b_law_drawn_4, b_law_drawn_3, b_law_drawn_2, b_law_drawn_1, b_law_drawn_0, ec, h3, h5, h6, h7, h8, ex]
end K02
end
section
set_option Elab.async false
set_option linter.all false
set_option maxRecDepth 100000
set_option maxHeartbeats 4000000
set_option autoImplicit false
/-! the drawn function. -/
namespace K02
open PySem PySem.Spec PyProof.Rows L2 VM
theorem low_ok (r : List Int) (k : Nat) (X : Store) : ((stD (r, X) k).take 2).all (upToO 2) = true := by
  show (upToL 2 (r.map .int) && (upToL 2 [.int (k : Nat)] && true)) = true
  rw [upToL_closed 2 _ (closed_ints r), upToL_closed 2 [.int (k : Nat)] (closed_ints [(k : Int)])]; rfl
theorem scope_ok (r : List Int) (k : Nat) (X : Store) (a : A) (h : closed a = true) : scopeR (stD (r, []) k).length (.ok a (stD (r, X) k)) = .ok a (stD (r, []) k) :=
  scopeR_ok (low_ok r k X) (fzU_closed _ _ _ _ h)
theorem scope_ok' (r : List Int) (k k' : Nat) (X : Store) (a : A) (h : closed a = true) : scopeR (stD (r, []) k').length (.ok a (stD (r, X) k)) = .ok a (stD (r, []) k) :=
  scopeR_ok (low_ok r k X) (fzU_closed _ _ _ _ h)
theorem set_map (c : List Ins) (j : Nat) (i : Ins) : (c.map Ins.e).set j i.e = (c.set j i).map Ins.e := by rw [List.map_set]
theorem function_drawn (r : List Int) (t : Int) (k : Nat) (T : Tr) (hT : T.ok) (h58 : T.main.length ≤ 58) (hk : k + 100 ≤ 900000) :
    ∃ (c : List Ins) (k' : Nat), WFc c ∧ 0 < c.length ∧ k' ≤ k + 100 ∧ m_law_function [dA t, T.a] (stD (r, []) k) = .ok (fnA c) (stD (r, []) k') := by
  obtain ⟨v, v1, v2, ev⟩ := take_ok (r, []) t k 2 (by decide) (by omega)
  unfold m_law_function scopeF
  by_cases h0 : v = 0
  · subst h0
    have em := main_ok T hT (stD (r, []) (k + 1))
    have hp : 0 < T.main.length := by simp [Tr.main]; omega
    obtain ⟨at_, a1, a2, ea⟩ := take_ok (r, [.lst (T.main.map Ins.e)]) t (k + 1) (T.main.length : Nat) (by omega) (by omega)
    obtain ⟨at_, rfl⟩ : ∃ n : Nat, at_ = n := ⟨at_.toNat, by omega⟩
    obtain ⟨i, k2, hi, l2, ei⟩ := drawn_ok (r, [.lst (T.main.map Ins.e)]) t (k + 1 + 1) T.main.length (by omega)
    have e1 : opListN [.lst (T.main.map Ins.e)] (stD (r, []) (k + 1)) = .ok (.ref 2) (stD (r, [.lst (T.main.map Ins.e)]) (k + 1)) := Eq.trans rfl (Eq.refl _)
    have e2 : ∀ k, opLen [.ref 2] (stD (r, [.lst (T.main.map Ins.e)]) k) = .ok (.int T.main.length) (stD (r, [.lst (T.main.map Ins.e)]) k) := fun k => by
      rw [opLen_ref (n := 2) (xs := T.main.map Ins.e) rfl, List.length_map]
    have e3 : ∀ k, opSet (.ref 2) (.int (at_ : Nat)) i.e (stD (r, [.lst (T.main.map Ins.e)]) k) = .ok .non (stD (r, [.lst ((T.main.set at_ i).map Ins.e)]) k) := fun k => by
      rw [opSet_lstN (n := 2) (xs := T.main.map Ins.e) rfl (by rw [List.length_map]; omega), set_map]; rfl
    have e4 : ∀ k, opTup [.ref 2] (stD (r, [.lst ((T.main.set at_ i).map Ins.e)]) k) = .ok (codeA (T.main.set at_ i)) (stD (r, [.lst ((T.main.set at_ i).map Ins.e)]) k) := fun k => Eq.trans rfl (Eq.refl _)
    have hwf : WFc (T.main.set at_ i) := wf_of (by rw [List.length_set]; omega) T.main.length (by omega) (fun j hj => by
      rcases List.mem_or_eq_of_mem_set hj with hj | rfl
      · exact main_in T hT j hj
      · exact hi)
    refine ⟨T.main.set at_ i, k2, hwf, by rw [List.length_set]; omega, by omega, ?_⟩
    suffices key : runBody 6 b_law_function [dA t, T.a] (stD (r, []) k) = .ok (fnA (T.main.set at_ i)) (stD (r, [.lst ((T.main.set at_ i).map Ins.e)]) k2) by
      rw [key]; exact scope_ok' r k2 k _ _ (by simp)
    simp only [fnA]
    generalize codeA (T.main.set at_ i) = cA at e4 ⊢
    generalize (T.main.set at_ i).map Ins.e = c2 at e3 e4 ⊢
    generalize T.main.map Ins.e = c1 at em ea ei e1 e2 e3 ⊢
    generalize T.a = ta at em ⊢
    simp [b_law_function, b_law_function_0, ev, em, e1, e2, ea, ei, e3, e4]
  · obtain ⟨u, u1, u2, eu⟩ := take_ok (r, []) t (k + 1) 6 (by decide) (by omega)
    obtain ⟨m, hm⟩ : ∃ n : Nat, 1 + u = n := ⟨(1 + u).toNat, by omega⟩
    have er := items_rg m (by omega)
    obtain ⟨l, k2, l1, l2, l3, el⟩ := lcL_draw Ins.e (InR m) (gN 5) (cApp m_law_drawn (cCons (cVar 0) (cCons (cVar 4) cNil)))
      [some (dA t), some T.a, none, none, some (.int (m : Nat)), none] (r, []) 10 900000 (fun x k hk => by
        obtain ⟨s, k', s1, s2, es⟩ := drawn_ok (r, []) t k m (by omega)
        exact ⟨s, k', s1, s2, by simp [turnC, cYes, es]⟩) (rgN 0 m) [] (k + 1 + 1) (by simp [rgN_len]; omega) (by simp only [rgN_len]; omega)
    rw [rgN_len] at l1 l3
    have hwf : WFc (l ++ [.push 1, .ret]) := wf_of (by simp; omega) 59 (by omega) (fun j hj => by
      simp only [List.mem_append, List.mem_cons, List.not_mem_nil, or_false] at hj
      rcases hj with hj | rfl | rfl
      · exact (l2 j hj).mono (by omega)
      · simp only [InR, isW]; omega
      · exact trivial)
    refine ⟨l ++ [.push 1, .ret], k2, hwf, by simp, by omega, ?_⟩
    suffices key : runBody 6 b_law_function [dA t, T.a] (stD (r, []) k) = .ok (fnA (l ++ [.push 1, .ret])) (stD (r, []) k2) by
      rw [key]; exact scope_ok' r k2 k _ _ (by simp)
    have z : l.length + 2 ≤ 16777216 := by omega
    simp only [fnA, codeA]
    generalize rgN 0 m = xs at er el
    generalize T.a = ta at el ⊢
    simp [b_law_function, b_law_function_0, ev, h0, eu, hm, er, el, opAdd_lst, z, Ins.e]
end K02
end
section
set_option Elab.async false
set_option linter.all false
set_option maxRecDepth 100000
set_option maxHeartbeats 4000000
set_option autoImplicit false
/-! the deal of a script. -/
namespace K02
open PySem PySem.Spec PyProof.Rows L2 VM
theorem app_row (row : List Int) (x : Int) (h : row.length < 16777216) : opApp (.ref 0) [.int x] [.lst (row.map .int)] = .ok .non [.lst ((row ++ [x]).map .int)] := by
  rw [opApp_r0 _ (by rw [List.length_map]; exact h)]; simp
theorem dealA_loop : ∀ (xs : List A) (row : List Int) (cell : Int) (sc : A) (e2 e4 e5 : Option A), row.length + xs.length ≤ 100000 →
    ∃ (row' : List Int) (cell' : Int), row'.length ≤ row.length + xs.length ∧ loopL (gN 4) b_law_deal_0 [2, 4, 5] xs [some sc, some (.ref 0), e2, some (.int cell), e4, e5] [.lst (row.map .int)] =
      .nx [some sc, some (.ref 0), none, some (.int cell'), none, none] [.lst (row'.map .int)]
  | [], row, cell, sc, e2, e4, e5, h => ⟨row, cell, by simp, by simp⟩
  | x :: xs, row, cell, sc, e2, e4, e5, h => by
    simp only [List.length_cons] at h ⊢
    have hd : cDivN cell 1009 = true := decide_eq_true (by decide)
    by_cases hc : 0 < cell
    · obtain ⟨row', cell', h1, h2⟩ := dealA_loop xs (row ++ [cell.fmod 1009]) (cell.fdiv 1009) sc none (some x) none (by simp; omega)
      refine ⟨row', cell', by simp at h1; omega, ?_⟩
      rw [← h2, loopL_cons]
      generalize loopL (gN 4) b_law_deal_0 [2, 4, 5] xs = W
      have ea := app_row row (cell.fmod 1009) (by omega)
      generalize List.map A.int row = R0 at ea ⊢
      generalize List.map A.int (row ++ [cell.fmod 1009]) = R1 at ea ⊢
      simp [b_law_deal_0, hc, opMod_ap cell 1009 (by decide), opDiv_ap cell 1009 hd, ea, -opApp_r0]
    · obtain ⟨row', cell', h1, h2⟩ := dealA_loop xs row cell sc none (some x) none (by omega)
      refine ⟨row', cell', by omega, ?_⟩
      rw [← h2, loopL_cons]
      generalize loopL (gN 4) b_law_deal_0 [2, 4, 5] xs = W
      simp [b_law_deal_0, hc]
theorem mul_16807 (k : Int) : cMul k 16807 = true := decide_eq_true (.inr (by decide))
theorem mul_48271 (k : Int) : cMul k 48271 = true := decide_eq_true (.inr (by decide))
theorem mul_69621 (k : Int) : cMul k 69621 = true := decide_eq_true (.inr (by decide))
theorem div_7 (k : Int) : cDivN k 7 = true := decide_eq_true (by decide)
theorem dealB_loop : ∀ (m j : Nat) (row : List Int) (cell : Int) (sc : A) (e2 e4 e5 : Option A), row.length + m ≤ 100000 →
    ∃ (row' : List Int) (cell' : Int), row'.length ≤ row.length + m ∧ loopL (gN 4) b_law_deal_2 [2, 4, 5] (rgN j m) [some sc, some (.ref 0), e2, some (.int cell), e4, e5] [.lst (row.map .int)] =
      .nx [some sc, some (.ref 0), none, some (.int cell'), none, none] [.lst (row'.map .int)]
  | 0, j, row, cell, sc, e2, e4, e5, h => ⟨row, cell, by simp, by simp [rgN]⟩
  | m + 1, j, row, cell, sc, e2, e4, e5, h => by
    obtain ⟨x1, m1⟩ : ∃ x, ∀ S, opMul (.int cell) (.int 16807) S = .ok (.int x) S := ⟨_, fun S => opMul_ap _ _ (mul_16807 cell)⟩
    obtain ⟨x2, m2⟩ : ∃ x, ∀ S, opMod (.int (x1 + 12345 + (j : Nat))) (.int 2147483647) S = .ok (.int x) S := ⟨_, fun S => opMod_ap _ _ (by decide)⟩
    obtain ⟨x3, m3⟩ : ∃ x, ∀ S, opDiv (.int x2) (.int 7) S = .ok (.int x) S := ⟨_, fun S => opDiv_ap _ _ (div_7 x2)⟩
    obtain ⟨x4, m4⟩ : ∃ x, ∀ S, opMod (.int x3) (.int 1009) S = .ok (.int x) S := ⟨_, fun S => opMod_ap _ _ (by decide)⟩
    obtain ⟨row', cell', h1, h2⟩ := dealB_loop m (j + 1) (row ++ [x4]) x2 sc none (some (.int (j : Nat))) none (by simp; omega)
    refine ⟨row', cell', by simp at h1; omega, ?_⟩
    rw [← h2, rgN_succ, loopL_cons]
    generalize loopL (gN 4) b_law_deal_2 [2, 4, 5] (rgN (j + 1) m) = W
    have ea := app_row row x4 (by omega)
    generalize List.map A.int row = R0 at ea ⊢
    generalize List.map A.int (row ++ [x4]) = R1 at ea ⊢
    simp [b_law_deal_2, b_law_deal_1, m1, m2, m3, m4, ea, -opApp_r0]
theorem pow_18 (S : Store) : opPow (.int 10) (.int 18) S = .ok (.int 1000000000000000000) S := by kernel_rfl
theorem deal_loop (ns : List Int) : ∀ (m j : Nat) (row : List Int) (e2 e3 e4 e5 : Option A), j + m = ns.length → row.length + 40 * m ≤ 50000 →
    ∃ (row' : List Int), row'.length ≤ row.length + 40 * m ∧ loopL (gN 2) b_law_deal_4 [2, 3, 4, 5] (rgN j m) [some (.lst (ns.map .int)), some (.ref 0), e2, e3, e4, e5] [.lst (row.map .int)] =
      .nx [some (.lst (ns.map .int)), some (.ref 0), none, none, none, none] [.lst (row'.map .int)]
  | 0, j, row, e2, e3, e4, e5, _, _ => ⟨row, by simp, by simp [rgN]⟩
  | m + 1, j, row, e2, e3, e4, e5, hj, hr => by
    have hlt : j < ns.length := by omega
    have ei : ∀ S, opIx (.lst (ns.map .int)) (.int (j : Nat)) S = .ok (.int ns[j]) S := fun S => opIx_lst (by rw [VM.atI_nat, List.getElem?_map, List.getElem?_eq_getElem hlt]; rfl)
    have eint : ∀ i S, opInt [.int i] S = .ok (.int i) S := fun _ _ => rfl
    obtain ⟨x0, m0⟩ : ∃ x, ∀ S, opAbs [.int ns[j]] S = .ok (.int x) S := ⟨_, fun S => rfl⟩
    rw [rgN_succ, loopL_cons]
    by_cases hc : 1000000000000000000 ≤ x0
    · have e40 : itemsR1 (.int 40) = pur (rgN 0 40) := items_rg 40 (by omega)
      obtain ⟨row1, cell1, h1, h2⟩ := dealA_loop (rgN 0 40) row x0 (.lst (ns.map .int)) (some (.int (j : Nat))) none none (by rw [rgN_len]; omega)
      rw [rgN_len] at h1
      obtain ⟨row', h3, h4⟩ := deal_loop ns m (j + 1) row1 none (some (.int cell1)) none none (by omega) (by omega)
      refine ⟨row', by omega, ?_⟩
      rw [← h4]
      generalize loopL (gN 2) b_law_deal_4 [2, 3, 4, 5] (rgN (j + 1) m) = W
      generalize List.map A.int row = R0 at h2 ⊢
      generalize List.map A.int row1 = R1 at h2 ⊢
      generalize List.map A.int ns = N at ei h2 ⊢
      generalize rgN 0 40 = X at e40 h2 ⊢
      simp [b_law_deal_4, b_law_deal_3, ei, eint, m0, pow_18, hc, e40, h2]
    · have e5 : itemsR1 (.int 5) = pur (rgN 0 5) := items_rg 5 (by omega)
      obtain ⟨x1, m1⟩ : ∃ x, ∀ S, opMod (.int x0) (.int 2147483629) S = .ok (.int x) S := ⟨_, fun S => opMod_ap _ _ (by decide)⟩
      obtain ⟨x2, m2⟩ : ∃ x, ∀ S, opMul (.int x1) (.int 48271) S = .ok (.int x) S := ⟨_, fun S => opMul_ap _ _ (mul_48271 x1)⟩
      obtain ⟨x3, m3⟩ : ∃ x, ∀ S, opMul (.int (j : Nat)) (.int 69621) S = .ok (.int x) S := ⟨_, fun S => opMul_ap _ _ (mul_69621 j)⟩
      obtain ⟨row1, cell1, h1, h2⟩ := dealB_loop 5 0 row (x2 + x3 + 11) (.lst (ns.map .int)) (some (.int (j : Nat))) none none (by omega)
      obtain ⟨row', h3, h4⟩ := deal_loop ns m (j + 1) row1 none (some (.int cell1)) none none (by omega) (by omega)
      refine ⟨row', by omega, ?_⟩
      rw [← h4]
      generalize loopL (gN 2) b_law_deal_4 [2, 3, 4, 5] (rgN (j + 1) m) = W
      generalize List.map A.int row = R0 at h2 ⊢
      generalize List.map A.int row1 = R1 at h2 ⊢
      generalize List.map A.int ns = N at ei h2 ⊢
      generalize rgN 0 5 = X at e5 h2 ⊢
      simp [b_law_deal_4, b_law_deal_3, ei, eint, m0, pow_18, hc, e5, m1, m2, m3, h2]
theorem ints_of : ∀ l : List Int, intsOf (l.map .int) = some l
  | [] => rfl
  | x :: l => by show (intsOf (l.map .int)).map (x :: ·) = _; rw [ints_of l]; rfl
theorem deal_ok (ns : List Int) (h : ns.length ≤ 63) : ∃ (r : List Int) (t : Int), m_law_deal [.lst (ns.map .int)] [] = .ok (dA t) (stD (r, []) 0) := by
  obtain ⟨row, h1, h2⟩ := deal_loop ns ns.length 0 [] none none none none (by omega) (by simp; omega)
  have e1 := items_rg ns.length (by omega)
  have em : ∀ S, opMin2 [.int (ns.length : Nat), .int 63] S = .ok (.int (ns.length : Nat)) S := fun S => by
    show R.ok (A.int (if (63 : Int) < (ns.length : Nat) then 63 else (ns.length : Nat))) S = _
    rw [if_neg (by omega)]
  have es : opSum [.ref 0] [.lst (row.map .int)] = .ok (.int row.sum) [.lst (row.map .int)] := by
    show (match intsOf (row.map .int) with | some ns => R.ok (A.int ns.sum) [.lst (row.map .int)] | none => .bad) = _
    rw [ints_of]
  refine ⟨row, row.sum + ns.length, ?_⟩
  have el : ∀ S, opLen [.lst (ns.map .int)] S = .ok (.int ns.length) S := fun S => by rw [opLen_lst, List.length_map]
  unfold m_law_deal stD dA
  simp only [List.map_nil] at h2
  generalize rgN 0 ns.length = X at e1 h2
  generalize List.map A.int ns = N at el h2 ⊢
  generalize List.map A.int row = R0 at es h2 ⊢
  simp [b_law_deal, b_law_deal_7, b_law_deal_6, b_law_deal_5, el, em, e1, h2, es, -opLen_lst]
end K02
end
section
set_option Elab.async false
set_option linter.all false
set_option maxRecDepth 100000
set_option maxHeartbeats 4000000
set_option autoImplicit false
/-! the changed maps. -/
namespace K02
open PySem PySem.Spec PyProof.Rows L2 VM
def putF (d : Fd) (p : Int) (s : List Ty) : Fd := if d.any (fun q => decide (q.1 = p)) then d.map (fun q => if q.1 = p then (q.1, s) else q) else d ++ [(p, s)]
theorem fA_putF (d : Fd) (p : Int) (s : List Ty) : putA (fA d) (.inl p) (.tup (tys s)) = fA (putF d p s) := by
  unfold putA putF
  have e : (fA d).any (fun kv => decide (kv.1 = Sum.inl p)) = d.any (fun q => decide (q.1 = p)) := by
    unfold fA
    rw [List.any_map]
    congr 1
    funext q
    simp
  rw [e]
  split
  · unfold fA
    rw [List.map_map, List.map_map]
    apply List.map_congr_left
    intro q _
    by_cases h : q.1 = p
    · simp [h]
    · simp [h]
  · simp [fA]
structure Good (m : Fd) : Prop where
  nd : (m.map (·.1)).Nodup
  ln : ∀ q ∈ m, q.2.length ≤ 1000
theorem putF_keys (d : Fd) (p : Int) (s : List Ty) (h : d.any (fun q => decide (q.1 = p)) = true) : (d.map (fun q => if q.1 = p then (q.1, s) else q)).map (·.1) = d.map (·.1) := by
  rw [List.map_map]
  apply List.map_congr_left
  intro q _
  simp only [Function.comp]
  split <;> rfl
theorem Good.put {d : Fd} (h : Good d) (p : Int) (s : List Ty) (hs : s.length ≤ 1000) : Good (putF d p s) := by
  unfold putF
  split
  · rename_i z
    refine ⟨by rw [putF_keys d p s z]; exact h.nd, fun q hq => ?_⟩
    obtain ⟨q', hq', rfl⟩ := List.mem_map.mp hq
    split
    · exact hs
    · exact h.ln q' hq'
  · rename_i z
    refine ⟨?_, fun q hq => ?_⟩
    · rw [List.map_append]
      refine List.nodup_append.mpr ⟨h.nd, by simp, fun a ha b hb e => z ?_⟩
      obtain ⟨q, hq, rfl⟩ := List.mem_map.mp ha
      simp at hb
      exact List.any_eq_true.mpr ⟨q, hq, by rw [e, hb]; simp⟩
    · rcases List.mem_append.mp hq with hq | hq
      · exact h.ln q hq
      · simp at hq; subst hq; exact hs
theorem putF_len (d : Fd) (p : Int) (s : List Ty) : (putF d p s).length ≤ d.length + 1 := by
  unfold putF
  split <;> simp
theorem good_nil : Good [] := ⟨by simp, fun q h => by cases h⟩
theorem stD_setX (rw_ : List Int) (X Y : Store) (o o' : O) (k j : Nat) (hj : j = 2 + X.length) : (stD (rw_, X ++ o :: Y) k).set j o' = stD (rw_, X ++ o' :: Y) k := by
  subst hj
  have e : (2 + X.length) = X.length + 1 + 1 := by omega
  rw [e]
  show _ :: _ :: (X ++ o :: Y).set X.length o' = _
  rw [List.set_append_right _ _ (by omega), Nat.sub_self]; rfl
theorem stD_getX (rw_ : List Int) (X Y : Store) (o : O) (k j : Nat) (hj : j = 2 + X.length) : (stD (rw_, X ++ o :: Y) k)[j]? = some o := by
  subst hj
  have e : (2 + X.length) = X.length + 1 + 1 := by omega
  rw [e]
  show (X ++ o :: Y)[X.length]? = _
  rw [List.getElem?_append_right (by omega)]; simp
theorem opSet_dicX (rw_ : List Int) (X Y : Store) (m : Fd) (k j : Nat) (hj : j = 2 + X.length) (p : Int) (s : List Ty) (hm : m.length < 10000) :
    opSet (.ref j) (.int p) (.tup (tys s)) (stD (rw_, X ++ .dic (fA m) :: Y) k) = .ok .non (stD (rw_, X ++ .dic (fA (putF m p s)) :: Y) k) := by
  unfold opSet
  simp only [stD_getX rw_ X Y (.dic (fA m)) k j hj]
  show (if (fA m).length < LINE then R.ok A.non ((stD (rw_, X ++ .dic (fA m) :: Y) k).set j (.dic (putA (fA m) (.inl p) (.tup (tys s))))) else .bad) = _
  rw [if_pos (by rw [fA_len]; show _ < 16777216; omega), stD_setX rw_ X Y _ _ k j hj, fA_putF]
abbrev ks (l : Fd) : List A := l.map fun q => .int q.1
theorem keys_fA (d : Fd) : (fA d).map (fun q => kA q.1) = ks d := by
  unfold fA ks
  rw [List.map_map]; rfl
theorem ix_fA (d : Fd) (p : Int) (s : List Ty) (h : look2 d p = some s) (S : Store) : opIx (.dic (fA d)) (.int p) S = .ok (.tup (tys s)) S := by
  rw [opIx_di, getK_fA, h]; rfl
theorem ch_in (d : Fd) (rw_ : List Int) (X Y : Store) (k j : Nat) (hj : j = 2 + X.length) (at_ : Int) (one : List Ty) (h1 : one.length ≤ 1000) (e2 e3 : Option A) : ∀ (l : Fd) (m : Fd) (e0 e7 e8 e9 : Option A),
    (∀ q ∈ l, look2 d q.1 = some q.2 ∧ q.2.length ≤ 1000) → Good m → m.length + l.length ≤ 1000 →
    ∃ m', Good m' ∧ m'.length ≤ m.length + l.length ∧ loopL (gN 7) b_law_changed_map_0 [0, 7, 8, 9] (ks l) [e0, some (.dic (fA d)), e2, e3, some (.int at_), some (.tup (tys one)), some (.ref j), e7, e8, e9] (stD (rw_, X ++ .dic (fA m) :: Y) k) =
      .nx [none, some (.dic (fA d)), e2, e3, some (.int at_), some (.tup (tys one)), some (.ref j), none, none, none] (stD (rw_, X ++ .dic (fA m') :: Y) k)
  | [], m, e0, e7, e8, e9, _, hg, _ => ⟨m, hg, by simp, by simp [ks]⟩
  | q :: l, m, e0, e7, e8, e9, hl, hg, hz => by
    simp only [List.length_cons] at hz ⊢
    obtain ⟨hq1, hq2⟩ := hl q List.mem_cons_self
    have ei : ∀ S, opIx (.dic (fA d)) (.int q.1) S = .ok (.tup (tys q.2)) S := fun S => ix_fA d q.1 q.2 hq1 S
    rw [show ks (q :: l) = .int q.1 :: ks l from rfl, loopL_cons]
    by_cases ha : q.1 = at_
    · obtain ⟨m', g1, g2, g3⟩ := ch_in d rw_ X Y k j hj at_ one h1 e2 e3 l (putF m q.1 one) none (some (.int q.1)) none none (fun x hx => hl x (List.mem_cons_of_mem _ hx)) (hg.put _ _ h1) (by have := putF_len m q.1 one; omega)
      refine ⟨m', g1, by have := putF_len m q.1 one; omega, ?_⟩
      rw [← g3]
      have es := opSet_dicX rw_ X Y m k j hj q.1 one (by omega)
      generalize loopL (gN 7) b_law_changed_map_0 [0, 7, 8, 9] (ks l) = W
      generalize A.dic (fA d) = D at ei ⊢
      generalize stD (rw_, X ++ .dic (fA m) :: Y) k = S1 at es ⊢
      generalize stD (rw_, X ++ .dic (fA (putF m q.1 one)) :: Y) k = S2 at es ⊢
      subst ha
      simp [b_law_changed_map_0, es]
    · obtain ⟨m', g1, g2, g3⟩ := ch_in d rw_ X Y k j hj at_ one h1 e2 e3 l (putF m q.1 q.2) none (some (.int q.1)) none none (fun x hx => hl x (List.mem_cons_of_mem _ hx)) (hg.put _ _ hq2) (by have := putF_len m q.1 q.2; omega)
      refine ⟨m', g1, by have := putF_len m q.1 q.2; omega, ?_⟩
      rw [← g3]
      have es := opSet_dicX rw_ X Y m k j hj q.1 q.2 (by omega)
      generalize loopL (gN 7) b_law_changed_map_0 [0, 7, 8, 9] (ks l) = W
      generalize A.dic (fA d) = D at ei ⊢
      generalize stD (rw_, X ++ .dic (fA m) :: Y) k = S1 at es ⊢
      generalize stD (rw_, X ++ .dic (fA (putF m q.1 q.2)) :: Y) k = S2 at es ⊢
      simp [b_law_changed_map_0, ei, ha, es]
theorem ch_lm (d : Fd) (rw_ : List Int) (X : Store) (k j1 j2 : Nat) (hj1 : j1 = 2 + X.length) (hj2 : j2 = 3 + X.length) (at_ : Int) (e2 e3 : Option A) : ∀ (l : Fd) (m1 m2 : Fd) (e0 e5 e6 e7 : Option A),
    (∀ q ∈ l, look2 d q.1 = some q.2 ∧ q.2.length ≤ 1000) → Good m1 → Good m2 → m1.length + l.length ≤ 1000 → m2.length + l.length ≤ 1000 →
    ∃ m1' m2', Good m1' ∧ Good m2' ∧ m2'.length ≤ m2.length + l.length ∧ loopL (gN 7) b_law_changed_map_5 [0, 5, 6, 7] (ks l) [e0, some (.dic (fA d)), e2, e3, some (.int at_), e5, e6, e7, some (.ref j1), some (.ref j2)] (stD (rw_, X ++ [.dic (fA m1), .dic (fA m2)]) k) =
      .nx [none, some (.dic (fA d)), e2, e3, some (.int at_), none, none, none, some (.ref j1), some (.ref j2)] (stD (rw_, X ++ [.dic (fA m1'), .dic (fA m2')]) k)
  | [], m1, m2, e0, e5, e6, e7, _, g1, g2, _, _ => ⟨m1, m2, g1, g2, by simp, by simp [ks]⟩
  | q :: l, m1, m2, e0, e5, e6, e7, hl, g1, g2, hz1, hz2 => by
    simp only [List.length_cons] at hz1 hz2 ⊢
    obtain ⟨hq1, hq2⟩ := hl q List.mem_cons_self
    have ei : ∀ S, opIx (.dic (fA d)) (.int q.1) S = .ok (.tup (tys q.2)) S := fun S => ix_fA d q.1 q.2 hq1 S
    rw [show ks (q :: l) = .int q.1 :: ks l from rfl, loopL_cons]
    have p2 := putF_len m2 q.1 q.2
    have p1 := putF_len m1 q.1 q.2
    have es2 : opSet (.ref j2) (.int q.1) (.tup (tys q.2)) (stD (rw_, X ++ [.dic (fA m1), .dic (fA m2)]) k) = .ok .non (stD (rw_, X ++ [.dic (fA m1), .dic (fA (putF m2 q.1 q.2))]) k) := by
      have := opSet_dicX rw_ (X ++ [.dic (fA m1)]) [] m2 k j2 (by simp; omega) q.1 q.2 (by omega)
      simpa [List.append_assoc] using this
    by_cases ha : q.1 = at_
    · obtain ⟨m1', m2', a1, a2, a3, a4⟩ := ch_lm d rw_ X k j1 j2 hj1 hj2 at_ e2 e3 l m1 (putF m2 q.1 q.2) none none none (some (.int q.1)) (fun x hx => hl x (List.mem_cons_of_mem _ hx)) g1 (g2.put _ _ hq2) (by omega) (by omega)
      refine ⟨m1', m2', a1, a2, by omega, ?_⟩
      rw [← a4]
      generalize loopL (gN 7) b_law_changed_map_5 [0, 5, 6, 7] (ks l) = W
      generalize A.dic (fA d) = D at ei ⊢
      generalize stD (rw_, X ++ [.dic (fA m1), .dic (fA m2)]) k = S1 at es2 ⊢
      generalize stD (rw_, X ++ [.dic (fA m1), .dic (fA (putF m2 q.1 q.2))]) k = S2 at es2 ⊢
      subst ha
      simp [b_law_changed_map_5, b_law_changed_map_4, ei, es2]
    · obtain ⟨m1', m2', a1, a2, a3, a4⟩ := ch_lm d rw_ X k j1 j2 hj1 hj2 at_ e2 e3 l (putF m1 q.1 q.2) (putF m2 q.1 q.2) none none none (some (.int q.1)) (fun x hx => hl x (List.mem_cons_of_mem _ hx)) (g1.put _ _ hq2) (g2.put _ _ hq2) (by omega) (by omega)
      refine ⟨m1', m2', a1, a2, by omega, ?_⟩
      rw [← a4]
      have es1 : opSet (.ref j1) (.int q.1) (.tup (tys q.2)) (stD (rw_, X ++ [.dic (fA m1), .dic (fA (putF m2 q.1 q.2))]) k) = .ok .non (stD (rw_, X ++ [.dic (fA (putF m1 q.1 q.2)), .dic (fA (putF m2 q.1 q.2))]) k) :=
        opSet_dicX rw_ X [.dic (fA (putF m2 q.1 q.2))] m1 k j1 hj1 q.1 q.2 (by omega)
      generalize loopL (gN 7) b_law_changed_map_5 [0, 5, 6, 7] (ks l) = W
      generalize A.dic (fA d) = D at ei ⊢
      generalize stD (rw_, X ++ [.dic (fA m1), .dic (fA m2)]) k = S1 at es2 ⊢
      generalize stD (rw_, X ++ [.dic (fA m1), .dic (fA (putF m2 q.1 q.2))]) k = S2 at es2 es1 ⊢
      generalize stD (rw_, X ++ [.dic (fA (putF m1 q.1 q.2)), .dic (fA (putF m2 q.1 q.2))]) k = S3 at es1 ⊢
      simp [b_law_changed_map_5, b_law_changed_map_4, ei, es2, ha, es1]
/-- one of the three turns: a map with another stack at the place -/
theorem ch_turn (d : Fd) (rw_ : List Int) (bent : List A) (ms : List Fd) (k : Nat) (at_ : Int) (one : List Ty) (h1 : one.length ≤ 1000) (hb : bent.length ≤ 100) (hd : ∀ q ∈ d, look2 d q.1 = some q.2 ∧ q.2.length ≤ 1000) (hl : d.length ≤ 1000) (e0 e3 e6 e7 e8 e9 : Option A) :
    ∃ m', Good m' ∧ b_law_changed_map_3 [e0, some (.dic (fA d)), some (.ref 2), e3, some (.int at_), some (.tup (tys one)), e6, e7, e8, e9] (stD (rw_, .lst bent :: ms.map fun m => .dic (fA m)) k) =
      .nx [none, some (.dic (fA d)), some (.ref 2), e3, some (.int at_), some (.tup (tys one)), some (.ref (3 + ms.length)), none, none, none] (stD (rw_, .lst (bent ++ [.ref (3 + ms.length)]) :: (ms ++ [m']).map fun m => .dic (fA m)) k) := by
  obtain ⟨m', g1, g2, g3⟩ := ch_in d rw_ (.lst bent :: ms.map fun m => .dic (fA m)) [] k (3 + ms.length) (by simp; omega) at_ one h1 (some (.ref 2)) e3 d [] e0 e7 e8 e9 hd good_nil (by simpa using hl)
  refine ⟨m', g1, ?_⟩
  have en : cDicN0 [e0, some (.dic (fA d)), some (.ref 2), e3, some (.int at_), some (.tup (tys one)), e6, e7, e8, e9] (stD (rw_, .lst bent :: ms.map fun m => .dic (fA m)) k) = .ok (.ref (3 + ms.length)) (stD (rw_, (.lst bent :: ms.map fun m => .dic (fA m)) ++ [.dic (fA [])]) k) := by
    have : (stD (rw_, .lst bent :: ms.map fun m => .dic (fA m)) k).length = 3 + ms.length := by simp [stD]; omega
    rw [cDicN0_ap, this]; rfl
  have ea : opApp (.ref 2) [.ref (3 + ms.length)] (stD (rw_, (.lst bent :: ms.map fun m => .dic (fA m)) ++ [.dic (fA m')]) k) = .ok .non (stD (rw_, .lst (bent ++ [.ref (3 + ms.length)]) :: (ms ++ [m']).map fun m => .dic (fA m)) k) := by
    rw [List.cons_append]
    show opApp (.ref 2) _ (_ :: _ :: O.lst bent :: _) = _
    rw [opApp_r2 _ (by show _ < 16777216; omega)]
    simp [stD]
  have et : isTy "list" (.ref 2) (stD (rw_, (.lst bent :: ms.map fun m => .dic (fA m)) ++ [.dic (fA m')]) k) = .ok () (stD (rw_, (.lst bent :: ms.map fun m => .dic (fA m)) ++ [.dic (fA m')]) k) := by
    rw [List.cons_append]
    exact isTy_r2 _
  rw [← keys_fA] at g3
  generalize stD (rw_, .lst bent :: ms.map fun m => .dic (fA m)) k = S0 at en ⊢
  generalize stD (rw_, (.lst bent :: ms.map fun m => .dic (fA m)) ++ [.dic (fA [])]) k = S1 at en g3 ⊢
  generalize stD (rw_, (.lst bent :: ms.map fun m => .dic (fA m)) ++ [.dic (fA m')]) k = S2 at et ea g3 ⊢
  generalize stD (rw_, .lst (bent ++ [.ref (3 + ms.length)]) :: (ms ++ [m']).map fun m => .dic (fA m)) k = S3 at ea ⊢
  simp [b_law_changed_map_3, b_law_changed_map_2, b_law_changed_map_1, en, g3, et, ea, -cDicN0_ap]
end K02
end
section
set_option Elab.async false
set_option linter.all false
set_option maxRecDepth 100000
set_option maxHeartbeats 4000000
set_option autoImplicit false
/-! the changed maps, joined. -/
namespace K02
open PySem PySem.Spec PyProof.Rows L2 VM
abbrev dcsO (ms : List Fd) : Store := ms.map fun m => .dic (fA m)
abbrev dcs (ms : List Fd) : List A := ms.map fun m => .dic (fA m)
theorem sort_ks (d : Fd) (S : Store) : opSortI [.lst (ks d)] S = .ok (.lst ((isort (d.map (·.1))).map .int)) S := by
  show (match intsOf (ks d) with | some ns => R.ok (A.lst ((isort ns).map .int)) S | none => .bad) = _
  have : ks d = (d.map (·.1)).map A.int := by unfold ks; rw [List.map_map]; rfl
  rw [this, ints_of]
theorem list_ks (d : Fd) (S : Store) : opList [.dic (fA d)] S = .ok (.lst (ks d)) S := by
  show R.ok (A.lst ((fA d).map fun kv => kA kv.1)) S = _
  rw [keys_fA]
theorem last_ix (ps : List Int) (h : 0 < ps.length) : ∃ p, ∀ S, opIx (.lst (ps.map .int)) (.int (-1)) S = .ok (.int p) S := by
  rcases snoc_cases ps with e | ⟨q, x, rfl⟩
  · subst e; simp at h
  · refine ⟨x, fun S => opIx_lst ?_⟩
    have := atI_neg ((q ++ [x]).map A.int) 0 (by simp)
    rw [show (-1 : Int) = -(((0 : Nat) : Int) + 1) from rfl, this]
    simp
theorem changed_map_ok (r : List Int) (t : Int) (k : Nat) (hk : k < 900000) (d : Fd) (hg : Good d) (hd : ∀ q ∈ d, look2 d q.1 = some q.2 ∧ q.2.length ≤ 1000) (hl : d.length ≤ 100) (hne : 0 < d.length) :
    ∃ (ms : List Fd), (∀ m ∈ ms, Good m) ∧ m_law_changed_map [dA t, .dic (fA d)] (stD (r, []) k) = .ok (.lst (dcs ms)) (stD (r, []) (k + 1)) := by
  have hpl : (isort (d.map (·.1))).length = d.length := by rw [(isort_perm _).length_eq, List.length_map]
  obtain ⟨x, hx, ex⟩ := pick_ok (r, [.lst [.dic (fA d)]]) t k ((isort (d.map (·.1))).map .int) (by rw [List.length_map]; omega) (by omega)
  obtain ⟨at_, -, rfl⟩ := List.mem_map.mp hx
  obtain ⟨pl, epl⟩ := last_ix (isort (d.map (·.1))) (by omega)
  have esort := sort_ks d
  generalize A.lst ((isort (d.map (·.1))).map .int) = P at ex epl esort
  obtain ⟨m1, g1, t1⟩ := ch_turn d r [.dic (fA d)] [] (k + 1) at_ [] (by simp) (by simp) hd (by omega) none (some P) none none none none
  obtain ⟨m2, g2, t2⟩ := ch_turn d r ([.dic (fA d)] ++ [.ref 3]) [m1] (k + 1) at_ [.int] (by simp) (by simp) hd (by omega) none (some P) none none none none
  obtain ⟨m3, g3, t3⟩ := ch_turn d r ([.dic (fA d)] ++ [.ref 3] ++ [.ref 4]) [m1, m2] (k + 1) at_ [.pair] (by simp) (by simp) hd (by omega) none (some P) none none none none
  obtain ⟨m4, m5, g4, g5, l5, t4⟩ := ch_lm d r (.lst ([.dic (fA d)] ++ [.ref 3] ++ [.ref 4] ++ [.ref 5]) :: dcsO [m1, m2, m3]) (k + 1) 6 7 rfl rfl at_ (some (.ref 2)) (some P) d [] [] none none none none hd good_nil good_nil (by simp; omega) (by simp; omega)
  have g6 : Good (putF m5 (pl + 1) [.int]) := g5.put _ _ (by simp)
  have l5' : m5.length < 10000 := by simp at l5; omega
  have es := opSet_dicX r (.lst [.dic (fA d), .ref 3, .ref 4, .ref 5] :: dcsO [m1, m2, m3, m4]) [] m5 (k + 1) 7 rfl (pl + 1) [.int] l5'
  have u1 : b_law_changed_map_3 [none, some (.dic (fA d)), some (.ref 2), some P, some (.int at_), some (.tup []), none, none, none, none] (stD (r, [.lst [.dic (fA d)]]) (k + 1)) = .nx [none, some (.dic (fA d)), some (.ref 2), some P, some (.int at_), some (.tup []), some (.ref 3), none, none, none] (stD (r, .lst [.dic (fA d), .ref 3] :: dcsO [m1]) (k + 1)) := t1
  have u2 : b_law_changed_map_3 [none, some (.dic (fA d)), some (.ref 2), some P, some (.int at_), some (.tup [.str "int"]), none, none, none, none] (stD (r, .lst [.dic (fA d), .ref 3] :: dcsO [m1]) (k + 1)) = .nx [none, some (.dic (fA d)), some (.ref 2), some P, some (.int at_), some (.tup [.str "int"]), some (.ref 4), none, none, none] (stD (r, .lst [.dic (fA d), .ref 3, .ref 4] :: dcsO [m1, m2]) (k + 1)) := t2
  have u3 : b_law_changed_map_3 [none, some (.dic (fA d)), some (.ref 2), some P, some (.int at_), some (.tup [.str "lib.pair"]), none, none, none, none] (stD (r, .lst [.dic (fA d), .ref 3, .ref 4] :: dcsO [m1, m2]) (k + 1)) = .nx [none, some (.dic (fA d)), some (.ref 2), some P, some (.int at_), some (.tup [.str "lib.pair"]), some (.ref 5), none, none, none] (stD (r, .lst [.dic (fA d), .ref 3, .ref 4, .ref 5] :: dcsO [m1, m2, m3]) (k + 1)) := t3
  have u4 : loopL (gN 7) b_law_changed_map_5 [0, 5, 6, 7] (ks d) [none, some (.dic (fA d)), some (.ref 2), some P, some (.int at_), none, none, none, some (.ref 6), some (.ref 7)] (stD (r, .lst [.dic (fA d), .ref 3, .ref 4, .ref 5] :: dcsO [m1, m2, m3, [], []]) (k + 1)) = .nx [none, some (.dic (fA d)), some (.ref 2), some P, some (.int at_), none, none, none, some (.ref 6), some (.ref 7)] (stD (r, .lst [.dic (fA d), .ref 3, .ref 4, .ref 5] :: dcsO [m1, m2, m3, m4, m5]) (k + 1)) := t4
  have u5 : opSet (.ref 7) (.int (pl + 1)) (.tup [.str "int"]) (stD (r, .lst [.dic (fA d), .ref 3, .ref 4, .ref 5] :: dcsO [m1, m2, m3, m4, m5]) (k + 1)) = .ok .non (stD (r, .lst [.dic (fA d), .ref 3, .ref 4, .ref 5] :: dcsO [m1, m2, m3, m4, putF m5 (pl + 1) [.int]]) (k + 1)) := es
  clear t1 t2 t3 t4 es
  generalize putF m5 (pl + 1) [.int] = m6 at g6 u5
  have c0 : ∀ e, cLstN (cCons (cVar 1) cNil) [some (dA t), some (.dic (fA d)), e, none, none, none, none, none, none, none] (stD (r, []) k) = .ok (.ref 2) (stD (r, [.lst [.dic (fA d)]]) k) := fun e => by simp [stD]
  have c1 : ∀ e, cDicN0 e (stD (r, .lst [.dic (fA d), .ref 3, .ref 4, .ref 5] :: dcsO [m1, m2, m3]) (k + 1)) = .ok (.ref 6) (stD (r, .lst [.dic (fA d), .ref 3, .ref 4, .ref 5] :: dcsO [m1, m2, m3, []]) (k + 1)) := fun e => rfl
  have c2 : ∀ e, cDicN0 e (stD (r, .lst [.dic (fA d), .ref 3, .ref 4, .ref 5] :: dcsO [m1, m2, m3, []]) (k + 1)) = .ok (.ref 7) (stD (r, .lst [.dic (fA d), .ref 3, .ref 4, .ref 5] :: dcsO [m1, m2, m3, [], []]) (k + 1)) := fun e => rfl
  have c3 : ∀ e, cDicN0 e (stD (r, .lst [.dic (fA d), .ref 3, .ref 4, .ref 5] :: dcsO [m1, m2, m3, m4, m6]) (k + 1)) = .ok (.ref 8) (stD (r, .lst [.dic (fA d), .ref 3, .ref 4, .ref 5] :: dcsO [m1, m2, m3, m4, m6, []]) (k + 1)) := fun e => rfl
  have c4 : opAdd (.ref 2) (.lst [.ref 6, .ref 7, .ref 8]) (stD (r, .lst [.dic (fA d), .ref 3, .ref 4, .ref 5] :: dcsO [m1, m2, m3, m4, m6, []]) (k + 1)) = .ok (.lst [.dic (fA d), .ref 3, .ref 4, .ref 5, .ref 6, .ref 7, .ref 8]) (stD (r, .lst [.dic (fA d), .ref 3, .ref 4, .ref 5] :: dcsO [m1, m2, m3, m4, m6, []]) (k + 1)) := by
    show (if [A.dic (fA d), .ref 3, .ref 4, .ref 5].length + [A.ref 6, A.ref 7, A.ref 8].length ≤ LINE then R.ok (A.lst ([A.dic (fA d), .ref 3, .ref 4, .ref 5] ++ [A.ref 6, A.ref 7, A.ref 8])) _ else .bad) = _
    rw [if_pos (by simp)]; rfl
  have hfin : scopeR 2 (.ok (.lst [.dic (fA d), .ref 3, .ref 4, .ref 5, .ref 6, .ref 7, .ref 8]) (stD (r, .lst [.dic (fA d), .ref 3, .ref 4, .ref 5] :: dcsO [m1, m2, m3, m4, m6, []]) (k + 1))) = .ok (.lst (dcs [d, m1, m2, m3, m4, m6, []])) (stD (r, []) (k + 1)) := by
    refine scopeR_ok (low_ok r (k + 1) _) ?_
    generalize hS : stD (r, .lst [.dic (fA d), .ref 3, .ref 4, .ref 5] :: dcsO [m1, m2, m3, m4, m6, []]) (k + 1) = S
    have f3 : fzU 3 2 S (.ref 3) = some (.dic (fA m1)) := fzU_dic 2 2 3 S (fA m1) (by subst hS; rfl) (by decide) (closed_fA m1)
    have f4 : fzU 3 2 S (.ref 4) = some (.dic (fA m2)) := fzU_dic 2 2 4 S (fA m2) (by subst hS; rfl) (by decide) (closed_fA m2)
    have f5 : fzU 3 2 S (.ref 5) = some (.dic (fA m3)) := fzU_dic 2 2 5 S (fA m3) (by subst hS; rfl) (by decide) (closed_fA m3)
    have f6 : fzU 3 2 S (.ref 6) = some (.dic (fA m4)) := fzU_dic 2 2 6 S (fA m4) (by subst hS; rfl) (by decide) (closed_fA m4)
    have f7 : fzU 3 2 S (.ref 7) = some (.dic (fA m6)) := fzU_dic 2 2 7 S (fA m6) (by subst hS; rfl) (by decide) (closed_fA m6)
    have f8 : fzU 3 2 S (.ref 8) = some (.dic (fA [])) := fzU_dic 2 2 8 S (fA []) (by subst hS; rfl) (by decide) (closed_fA [])
    have f0 : fzU 3 2 S (.dic (fA d)) = some (.dic (fA d)) := fzU_closed 3 2 S _ (closed_fA d)
    have hu : upTo 2 (.lst [.dic (fA d), .ref 3, .ref 4, .ref 5, .ref 6, .ref 7, .ref 8]) = false := by
      show (upTo 2 (.dic (fA d)) && (false && _)) = false
      simp
    have e : fzU 4 2 S (.lst [.dic (fA d), .ref 3, .ref 4, .ref 5, .ref 6, .ref 7, .ref 8]) = (if upTo 2 (.lst [.dic (fA d), .ref 3, .ref 4, .ref 5, .ref 6, .ref 7, .ref 8]) then some (.lst [.dic (fA d), .ref 3, .ref 4, .ref 5, .ref 6, .ref 7, .ref 8]) else (optMap (fzU 3 2 S) [.dic (fA d), .ref 3, .ref 4, .ref 5, .ref 6, .ref 7, .ref 8]).map .lst) := rfl
    rw [e, hu]
    generalize fzU 3 2 S = F at f0 f3 f4 f5 f6 f7 f8
    simp [optMap, f0, f3, f4, f5, f6, f7, f8]
  refine ⟨[d, m1, m2, m3, m4, m6, []], fun m hm => ?_, ?_⟩
  · simp only [List.mem_cons, List.not_mem_nil, or_false] at hm
    rcases hm with rfl | rfl | rfl | rfl | rfl | rfl | rfl
    · exact hg
    · exact g1
    · exact g2
    · exact g3
    · exact g4
    · exact g6
    · exact good_nil
  · unfold m_law_changed_map scopeF
    rw [show (stD (r, []) k).length = 2 from rfl, ← hfin]
    suffices key : runBody 10 b_law_changed_map [dA t, .dic (fA d)] (stD (r, []) k) = .ok (.lst [.dic (fA d), .ref 3, .ref 4, .ref 5, .ref 6, .ref 7, .ref 8]) (stD (r, .lst [.dic (fA d), .ref 3, .ref 4, .ref 5] :: dcsO [m1, m2, m3, m4, m6, []]) (k + 1)) by rw [key]
    clear hfin
    have el := list_ks d
    rw [← keys_fA] at u4 el
    rw [← keys_fA] at esort
    generalize fA d = K at *
    generalize stD (r, []) k = S0 at *
    generalize stD (r, [.lst [.dic K]]) k = S1 at *
    generalize stD (r, [.lst [.dic K]]) (k + 1) = S2 at *
    generalize stD (r, .lst [.dic K, .ref 3] :: dcsO [m1]) (k + 1) = S3 at *
    generalize stD (r, .lst [.dic K, .ref 3, .ref 4] :: dcsO [m1, m2]) (k + 1) = S4 at *
    generalize stD (r, .lst [.dic K, .ref 3, .ref 4, .ref 5] :: dcsO [m1, m2, m3]) (k + 1) = S5 at *
    generalize stD (r, .lst [.dic K, .ref 3, .ref 4, .ref 5] :: dcsO [m1, m2, m3, []]) (k + 1) = S6 at *
    generalize stD (r, .lst [.dic K, .ref 3, .ref 4, .ref 5] :: dcsO [m1, m2, m3, [], []]) (k + 1) = S7 at *
    generalize stD (r, .lst [.dic K, .ref 3, .ref 4, .ref 5] :: dcsO [m1, m2, m3, m4, m5]) (k + 1) = S8 at *
    generalize stD (r, .lst [.dic K, .ref 3, .ref 4, .ref 5] :: dcsO [m1, m2, m3, m4, m6]) (k + 1) = S9 at *
    generalize stD (r, .lst [.dic K, .ref 3, .ref 4, .ref 5] :: dcsO [m1, m2, m3, m4, m6, []]) (k + 1) = S10 at *
    clear hd hg hl hne hpl hx
    simp [b_law_changed_map, b_law_changed_map_13, b_law_changed_map_12, b_law_changed_map_11, b_law_changed_map_10, b_law_changed_map_9, b_law_changed_map_8, b_law_changed_map_7, b_law_changed_map_6, c0, el, esort, ex, u1, u2, u3, c1, c2, u4, epl, u5, c3, c4, -cLstN_ap, -cDicN0_ap]
end K02
end
section
set_option Elab.async false
set_option linter.all false
set_option maxRecDepth 100000
set_option maxHeartbeats 4000000
set_option autoImplicit false
/-! comparing answers. -/
namespace K02
open PySem PySem.Spec PyProof.Rows L2 VM
theorem law_bool_ok (a b : Bool) (S : Store) : m_law_bool [.bl a, .bl b] S = .ok (.bl (decide (a = b))) S := by
  cases a <;> cases b <;> kernel_rfl
theorem hits_self (d : Fd) (h : ∀ q ∈ d, look2 d q.1 = some q.2) : ∀ l : Fd, (∀ q ∈ l, q ∈ d) → hitsA (fA d) (fA l) = some true
  | [], _ => rfl
  | q :: l, hl => by
    show (match getK (fA d) (.inl q.1) with
      | none => some false
      | some b => (match eqData (.tup (tys q.2)) b, hitsA (fA d) (fA l) with
        | some e, some t => some (e && t)
        | _, _ => none)) = _
    rw [getK_fA, h q (hl q List.mem_cons_self), hits_self d h l (fun x hx => hl x (List.mem_cons_of_mem _ hx))]
    have e : eqData (.tup (tys q.2)) (.tup (tys q.2)) = some true := by
      have := eqA_tup q.2 q.2
      simp at this
      exact this
    simp [e]
theorem ne2_self (d : Fd) (h : ∀ q ∈ d, look2 d q.1 = some q.2) (S : Store) : opNe2 (.dic (fA d)) (.dic (fA d)) S = .ok (.bl false) S := by
  have e : eqA2 (.dic (fA d)) (.dic (fA d)) = some true := by
    show (if (fA d).length = (fA d).length then hitsA (fA d) (fA d) else some false) = _
    rw [if_pos rfl, hits_self d h d (fun q z => z)]
  unfold opNe2
  rw [e]; rfl
@[simp] theorem opIsi_tt (xs : List A) (S : Store) : opIsi "tuple" (.tup xs) S = .ok (.bl true) S := Eq.trans rfl (Eq.refl _)
@[simp] theorem opIsi_lt (xs : List A) (S : Store) : opIsi "list" (.tup xs) S = .ok (.bl false) S := Eq.trans rfl (Eq.refl _)
@[simp] theorem opIsi_tl (xs : List A) (S : Store) : opIsi "tuple" (.lst xs) S = .ok (.bl false) S := Eq.trans rfl (Eq.refl _)
@[simp] theorem opIsi_ll (xs : List A) (S : Store) : opIsi "list" (.lst xs) S = .ok (.bl true) S := Eq.trans rfl (Eq.refl _)
theorem same_loop (n : Nat) (xs : List A) (x : A) (hx : x = .tup xs ∨ x = .lst xs) (h : ∀ y ∈ xs, m_law_same n [y, y] [] = .ok (.bl true) []) : ∀ (m j : Nat) (e2 : Option A), j + m = xs.length →
    loopL (gN 2) (sIf (VM.tNot (tVal (cApp (m_law_same n) (cCons (VM.c2 opIx (cVar 0) (cVar 2)) (cCons (VM.c2 opIx (cVar 1) (cVar 2)) cNil)))) ) (sRet (cC (.bl false))) sNil) [2] (rgN j m) [some x, some x, e2] [] = .nx [some x, some x, none] []
  | 0, j, e2, _ => by simp [rgN]
  | m + 1, j, e2, hj => by
    have ih := same_loop n xs x hx h m (j + 1) (some (.int (j : Nat))) (by omega)
    have hlt : j < xs.length := by omega
    have ei : opIx x (.int (j : Nat)) [] = .ok xs[j] [] := by
      rcases hx with rfl | rfl
      · exact opIx_tup (by rw [VM.atI_nat, List.getElem?_eq_getElem hlt])
      · exact opIx_lst (by rw [VM.atI_nat, List.getElem?_eq_getElem hlt])
    have es := h xs[j] (List.getElem_mem hlt)
    rw [rgN_succ, loopL_cons, ← ih]
    generalize loopL (gN 2) (sIf (VM.tNot (tVal (cApp (m_law_same n) (cCons (VM.c2 opIx (cVar 0) (cVar 2)) (cCons (VM.c2 opIx (cVar 1) (cVar 2)) cNil)))) ) (sRet (cC (.bl false))) sNil) [2] (rgN (j + 1) m) = W
    simp [ei, es]
theorem same_tup (n : Nat) (xs : List A) (hc : closedL xs = true) (hl : xs.length ≤ 1000) (h : ∀ y ∈ xs, m_law_same n [y, y] [] = .ok (.bl true) []) (S : Store) : m_law_same (n + 1) [.tup xs, .tup xs] S = .ok (.bl true) S := by
  unfold m_law_same
  rw [pureF_ap _ _ (by simp [hc])]
  have e := same_loop n xs (.tup xs) (.inl rfl) h xs.length 0 none (by omega)
  have er := items_rg xs.length hl
  generalize rgN 0 xs.length = X at e er
  simp [er, e]
theorem same_lst (n : Nat) (xs : List A) (hc : closedL xs = true) (hl : xs.length ≤ 1000) (h : ∀ y ∈ xs, m_law_same n [y, y] [] = .ok (.bl true) []) (S : Store) : m_law_same (n + 1) [.lst xs, .lst xs] S = .ok (.bl true) S := by
  unfold m_law_same
  rw [pureF_ap _ _ (by simp [hc])]
  have e := same_loop n xs (.lst xs) (.inr rfl) h xs.length 0 none (by omega)
  have er := items_rg xs.length hl
  generalize rgN 0 xs.length = X at e er
  simp [er, e]
theorem same_int (n : Nat) (i : Int) (S : Store) : m_law_same (n + 1) [.int i, .int i] S = .ok (.bl true) S := by
  unfold m_law_same
  rw [pureF_ap _ _ (by simp)]
  have h1 : ∀ S, opIsi "tuple" (.int i) S = .ok (.bl false) S := fun S => rfl
  have h2 : ∀ S, opIsi "list" (.int i) S = .ok (.bl false) S := fun S => rfl
  have h3 : ∀ S, opIsi "bool" (.int i) S = .ok (.bl false) S := fun S => rfl
  have h4 : ∀ S, opIsi "int" (.int i) S = .ok (.bl true) S := fun S => rfl
  simp [h1, h2, h3, h4]
theorem same_str (n : Nat) (i : Str) (S : Store) : m_law_same (n + 1) [.str i, .str i] S = .ok (.bl true) S := by
  unfold m_law_same
  rw [pureF_ap _ _ (by simp)]
  have h1 : ∀ S, opIsi "tuple" (.str i) S = .ok (.bl false) S := fun S => rfl
  have h2 : ∀ S, opIsi "list" (.str i) S = .ok (.bl false) S := fun S => rfl
  have h3 : ∀ S, opIsi "bool" (.str i) S = .ok (.bl false) S := fun S => rfl
  have h4 : ∀ S, opIsi "int" (.str i) S = .ok (.bl false) S := fun S => rfl
  have h5 : ∀ S, opIsi "str" (.str i) S = .ok (.bl true) S := fun S => rfl
  simp [h1, h2, h3, h4, h5]
theorem same_non (n : Nat) (S : Store) : m_law_same (n + 1) [.non, .non] S = .ok (.bl true) S := by
  unfold m_law_same
  rw [pureF_ap _ _ (by simp)]
  have h1 : ∀ S, opIsi "tuple" .non S = .ok (.bl false) S := fun S => rfl
  have h2 : ∀ S, opIsi "list" .non S = .ok (.bl false) S := fun S => rfl
  have h3 : ∀ S, opIsi "bool" .non S = .ok (.bl false) S := fun S => rfl
  have h4 : ∀ S, opIsi "int" .non S = .ok (.bl false) S := fun S => rfl
  have h5 : ∀ S, opIsi "str" .non S = .ok (.bl false) S := fun S => rfl
  simp [h1, h2, h3, h4, h5]
theorem same_tys (n : Nat) (s : List Ty) (hl : s.length ≤ 1000) (S : Store) : m_law_same (n + 2) [.tup (tys s), .tup (tys s)] S = .ok (.bl true) S :=
  same_tup (n + 1) (tys s) (closed_tys s) (by simpa using hl) (fun y hy => by
    obtain ⟨t, -, rfl⟩ := List.mem_map.mp hy
    exact same_str n t.s []) S
theorem same_steps (n : Nat) (o : Option Fd) (h : ∀ l, o = some l → l.length ≤ 1000 ∧ ∀ q ∈ l, q.2.length ≤ 1000) (S : Store) : m_law_same (n + 4) [encS o, encS o] S = .ok (.bl true) S := by
  cases o with
  | none => exact same_non (n + 3) S
  | some l =>
    obtain ⟨h1, h2⟩ := h l rfl
    refine same_lst (n + 3) (l.map encP) (closed_encPs l) (by rw [List.length_map]; exact h1) (fun y hy => ?_) S
    obtain ⟨q, hq, rfl⟩ := List.mem_map.mp hy
    refine same_tup (n + 2) [.int q.1, .tup (tys q.2)] (by simp) (by simp) (fun z hz => ?_) []
    simp only [List.mem_cons, List.not_mem_nil, or_false] at hz
    rcases hz with rfl | rfl
    · exact same_int (n + 1) q.1 []
    · exact same_tys n q.2 (h2 q hq) []
end K02
end
section
set_option Elab.async false
set_option linter.all false
set_option maxRecDepth 100000
set_option maxHeartbeats 4000000
set_option autoImplicit false
/-! the law's loops. -/
namespace K02
open PySem PySem.Spec PyProof.Rows L2 VM
theorem turns_ok (c : List Ins) (hc : WFc c) (r : List Int) (t : Int) : ∀ (xs : List A) (k : Nat) (e0 e2 e3 e4 e8 e9 e10 e11 e12 e13 e14 e15 e16 : Option A), k + 2 * xs.length ≤ 900000 →
    ∃ (e' : Slots) (k' : Nat), loopL (gN 14) b_law_4 [0, 2, 3, 4, 8, 9, 10, 11, 12, 13, 14, 15, 16] xs [e0, some (dA t), e2, e3, e4, some (fnA c), some (codeA c), some (partA c), e8, e9, e10, e11, e12, e13, e14, e15, e16] (stD (r, []) k) = .nx e' (stD (r, []) k')
  | [], k, e0, e2, e3, e4, e8, e9, e10, e11, e12, e13, e14, e15, e16, _ => ⟨_, k, loopL_nil _ _ _⟩
  | y :: xs, k, e0, e2, e3, e4, e8, e9, e10, e11, e12, e13, e14, e15, e16, hk => by
    simp only [List.length_cons] at hk
    obtain ⟨v, v1, v2, ev⟩ := take_ok (r, []) t k ((c.length : Int) + 1) (by omega) (by omega)
    obtain ⟨x, hx, ex⟩ := pick_ok (r, []) t (k + 1) [.tup [], .tup [.str "int"], .tup [.str "int", .str "int"], .tup [.str "lib.pair"], .tup [.str "lib.pair", .str "int"], .tup [.str "ints", .str "int"], .tup [.str "ints", .str "int", .str "int"], .tup [.str "lib.pair", .str "lib.pair"]] (by decide) (by omega)
    have : ∃ s : List Ty, s.length ≤ 3 ∧ x = .tup (tys s) := by
      simp only [List.mem_cons, List.not_mem_nil, or_false] at hx
      rcases hx with rfl | rfl | rfl | rfl | rfl | rfl | rfl | rfl
      · exact ⟨[], by decide, rfl⟩
      · exact ⟨[.int], by decide, rfl⟩
      · exact ⟨[.int, .int], by decide, rfl⟩
      · exact ⟨[.pair], by decide, rfl⟩
      · exact ⟨[.pair, .int], by decide, rfl⟩
      · exact ⟨[.ints, .int], by decide, rfl⟩
      · exact ⟨[.ints, .int, .int], by decide, rfl⟩
      · exact ⟨[.pair, .pair], by decide, rfl⟩
    obtain ⟨s, hs, rfl⟩ := this
    obtain ⟨e', k', ih⟩ := turns_ok c hc r t xs (k + 1 + 1) none none none none none none none none none none (some y) (some (.int v)) (some (.tup (tys s))) (by omega)
    refine ⟨e', k', ?_⟩
    have e1 := steps_ok c v s (stD (r, []) (k + 1 + 1)) (by omega)
    have e2 := law_steps_ok c v s (stD (r, []) (k + 1 + 1)) (by omega)
    have e3 := same_steps 8 (stepsT c v s) (fun l hl => ⟨by have := steps_two hl; omega, fun q hq => by have := steps_small hl q hq; omega⟩) (stD (r, []) (k + 1 + 1))
    have e4 := len_code c (stD (r, []) k)
    rw [loopL_cons, ← ih]
    generalize loopL (gN 14) b_law_4 [0, 2, 3, 4, 8, 9, 10, 11, 12, 13, 14, 15, 16] xs = W
    generalize stD (r, []) k = S0 at *
    generalize stD (r, []) (k + 1) = S1 at *
    generalize stD (r, []) (k + 1 + 1) = S2 at *
    generalize partA c = pa at *
    generalize fnA c = fa at *
    generalize codeA c = ca at *
    generalize encS (stepsT c v s) = X at *
    simp [b_law_4, b_law_3, b_law_2, e4, ev, ex, e1, e2, e3]
abbrev PP := Str × List Int × Option (List Int)
def ppA (z : PP) : A := paperA z.1 z.2.1 z.2.2
def ppOk (z : PP) : Prop := z.2.1.length ≤ 900 ∧ ∀ x, z.2.2 = some x → x.length ≤ 900
theorem papers_ok (c : List Ins) (S : Store) (e1 e10 : Option A) : ∀ (ps : List PP) (e0 e2 e3 e4 e8 e9 e11 e12 e13 e14 e15 e16 : Option A), (∀ z ∈ ps, ppOk z) →
    loopL (gN 11) b_law_1 [0, 2, 3, 4, 8, 9, 11, 12, 13, 14, 15, 16] (ps.map ppA) [e0, e1, e2, e3, e4, some (fnA c), some (codeA c), some (partA c), e8, e9, e10, e11, e12, e13, e14, e15, e16] S =
      .nx [none, e1, none, none, none, some (fnA c), some (codeA c), some (partA c), none, none, e10, none, none, none, none, none, none] S
  | [], e0, e2, e3, e4, e8, e9, e11, e12, e13, e14, e15, e16, _ => by simp
  | z :: ps, e0, e2, e3, e4, e8, e9, e11, e12, e13, e14, e15, e16, h => by
    have ih := papers_ok c S e1 e10 ps none none none none none none (some (ppA z)) none none none none none (fun x hx => h x (List.mem_cons_of_mem _ hx))
    obtain ⟨h1, h2⟩ := h z List.mem_cons_self
    have f1 : m_shows_fault [partA c, fnA c, ppA z] S = .ok (.bl (faultT c z.1 z.2.1 z.2.2)) S := fault_ok c z.1 z.2.1 z.2.2 S h1 h2
    have f2 : m_law_fault [codeA c, ppA z] S = .ok (.bl (faultT c z.1 z.2.1 z.2.2)) S := law_fault_ok c z.1 z.2.1 z.2.2 S h1 h2
    have f3 := law_bool_ok (faultT c z.1 z.2.1 z.2.2) (faultT c z.1 z.2.1 z.2.2) S
    rw [decide_eq_true rfl] at f3
    rw [List.map_cons, loopL_cons, ← ih]
    generalize loopL (gN 11) b_law_1 [0, 2, 3, 4, 8, 9, 11, 12, 13, 14, 15, 16] (ps.map ppA) = W
    generalize partA c = pa at *
    generalize fnA c = fa at *
    generalize codeA c = ca at *
    generalize faultT c z.1 z.2.1 z.2.2 = X at *
    generalize ppA z = Z at *
    simp [b_law_1, f1, f2, f3]
theorem maps_ok (c : List Ins) (S : Store) (e1 e10 : Option A) : ∀ (ms : List Fd) (e0 e2 e3 e4 e8 e9 e11 e12 e13 e14 e15 e16 : Option A), (∀ m ∈ ms, Good m) →
    loopL (gN 11) b_law_0 [0, 2, 3, 4, 8, 9, 11, 12, 13, 14, 15, 16] (dcs ms) [e0, e1, e2, e3, e4, some (fnA c), some (codeA c), some (partA c), e8, e9, e10, e11, e12, e13, e14, e15, e16] S =
      .nx [none, e1, none, none, none, some (fnA c), some (codeA c), some (partA c), none, none, e10, none, none, none, none, none, none] S
  | [], e0, e2, e3, e4, e8, e9, e11, e12, e13, e14, e15, e16, _ => by simp [dcs]
  | m :: ms, e0, e2, e3, e4, e8, e9, e11, e12, e13, e14, e15, e16, h => by
    have ih := maps_ok c S e1 e10 ms none none none none none none (some (.dic (fA m))) none none none none none (fun x hx => h x (List.mem_cons_of_mem _ hx))
    have hg := h m List.mem_cons_self
    have f1 := shows_map_ok c m S hg.ln
    have f2 := law_map_ok c m S (fun q hq => ⟨look2_mem m hg.nd q hq, hg.ln q hq⟩)
    have f3 := law_bool_ok (mapT c m) (mapT c m) S
    rw [decide_eq_true rfl] at f3
    rw [show dcs (m :: ms) = .dic (fA m) :: dcs ms from rfl, loopL_cons, ← ih]
    generalize loopL (gN 11) b_law_0 [0, 2, 3, 4, 8, 9, 11, 12, 13, 14, 15, 16] (dcs ms) = W
    generalize partA c = pa at *
    generalize fnA c = fa at *
    generalize codeA c = ca at *
    generalize mapT c m = X at *
    generalize A.dic (fA m) = Z at *
    simp [b_law_0, f1, f2, f3]
def drawnP (p : List Int) (x : Int) : List PP := [("stuck", p ++ [x], none), ("stuck", p, none), ("stuck", p ++ [x] ++ [x + 1], none), ("apart", p ++ [x], some (p ++ [x])), ("apart", p ++ [x], some ((p ++ [x]).take 1)), ("stuck", [], none), ("odd", p ++ [x], none), ("stuck", [1], none)]
theorem cut_1 (xs : List A) (h : 1 ≤ xs.length) : cutA xs none (some 1) = xs.take 1 := cutA_to xs 1 h
theorem cut_two (xs : List A) (h : 2 ≤ xs.length) : cutA xs none (some 2) = xs.take 2 := cutA_to xs 2 h
theorem drawnP_ok (p : List Int) (x : Int) (h : p.length ≤ 100) : ∀ z ∈ drawnP p x, ppOk z := by
  intro z hz
  simp only [drawnP, List.mem_cons, List.not_mem_nil, or_false] at hz
  rcases hz with rfl | rfl | rfl | rfl | rfl | rfl | rfl | rfl <;> refine ⟨?_, fun y hy => ?_⟩ <;> first | (simp; done) | (simp; omega) | (cases hy; done) | (cases hy; simp; omega) | (cases hy; rw [List.length_take]; omega) | (simp at hy)
theorem law9_ok (p : List Int) (x : Int) (h : p.length ≤ 100) (e0 e1 e2 e3 e4 e5 e6 e7 e8 e9 e10 e11 : Option A) (S : Store) :
    b_law_9 [e0, e1, e2, e3, e4, e5, e6, e7, e8, e9, e10, e11, some (pt (p ++ [x])), none, none, none, none] S =
      b_law_8 [e0, e1, e2, e3, e4, e5, e6, e7, e8, e9, e10, e11, some (pt (p ++ [x])), some (.lst ((drawnP p x).map ppA)), none, none, none] S := by
  have i1 := pt_last p x S
  have c1 : cutA ((p ++ [x]).map A.int) none (some (-1)) = p.map A.int := by rw [cut_t1]; simp
  have c2 : cutA ((p ++ [x]).map A.int) none (some 1) = ((p ++ [x]).take 1).map A.int := by rw [cut_1 _ (by simp)]; rw [List.map_take]
  have a1 : opAdd (pt (p ++ [x])) (.tup [.int (x + 1)]) S = .ok (pt (p ++ [x] ++ [x + 1])) S := by
    unfold pt
    rw [opAdd_tup _ _ (by simp; omega)]
    simp
  have s1 : opSl (pt (p ++ [x])) none (some (-1)) S = .ok (pt p) S := by unfold pt; rw [opSl_tup, c1]
  have s2 : opSl (pt (p ++ [x])) none (some 1) S = .ok (pt ((p ++ [x]).take 1)) S := by unfold pt; rw [opSl_tup, c2]
  have em : (drawnP p x).map ppA = [.tup [.str "stuck", pt (p ++ [x])], .tup [.str "stuck", pt p], .tup [.str "stuck", pt (p ++ [x] ++ [x + 1])], .tup [.str "apart", pt (p ++ [x]), pt (p ++ [x])], .tup [.str "apart", pt (p ++ [x]), pt ((p ++ [x]).take 1)], .tup [.str "stuck", .tup []], .tup [.str "odd", pt (p ++ [x])], .tup [.str "stuck", .tup [.int 1]]] := rfl
  rw [em]
  clear em c1 c2
  generalize pt (p ++ [x] ++ [x + 1]) = P3 at *
  generalize pt ((p ++ [x]).take 1) = P4 at *
  generalize pt (p ++ [x]) = P1 at *
  generalize pt p = P2 at *
  unfold b_law_9
  generalize b_law_8 = B
  simp [i1, a1, s1, s2]
/-- from the drawn papers to the end -/
theorem law8_ok (c : List Ins) (hc : WFc c) (r : List Int) (t : Int) (k : Nat) (hk : k + 100 ≤ 900000) (drawn : List PP) (hd : ∀ z ∈ drawn, ppOk z) (hdl : drawn.length ≤ 100) (fault : A)
    (hf : fault = .non ∨ ∃ z : PP, ppOk z ∧ fault = ppA z ∧ faultT c z.1 z.2.1 z.2.2 = true) (e0 e2 e3 e4 e8 e9 e11 e12 e14 e15 e16 : Option A) :
    ∃ k', b_law_8 [e0, some (dA t), e2, e3, e4, some (fnA c), some (codeA c), some (partA c), e8, e9, some fault, e11, e12, some (.lst (drawn.map ppA)), e14, e15, e16] (stD (r, []) k) = .rt (.bl true) (stD (r, []) k') := by
  have er : itemsR1 (.int 4) = pur (rgN 0 4) := items_rg 4 (by omega)
  obtain ⟨e', k', et⟩ := turns_ok c hc r t (rgN 0 4) k none none none none none none (some fault) none none none none none none (by rw [rgN_len]; omega)
  refine ⟨k', ?_⟩
  rcases hf with rfl | ⟨z, hz, rfl, ht⟩
  · have ep := papers_ok c (stD (r, []) k) (some (dA t)) (some .non) drawn e0 e2 e3 e4 e8 e9 e11 e12 (some (.lst (drawn.map ppA))) e14 e15 e16 hd
    have ea : opAdd (.lst (drawn.map ppA)) (.lst []) (stD (r, []) k) = .ok (.lst (drawn.map ppA)) (stD (r, []) k) := by
      rw [opAdd_lst _ _ (by simp; omega)]; simp
    generalize partA c = pa at *
    generalize fnA c = fa at *
    generalize codeA c = ca at *
    generalize rgN 0 4 = X at *
    generalize drawn.map ppA = D at *
    generalize stD (r, []) k = S0 at *
    simp [b_law_8, b_law_7, b_law_6, b_law_5, ea, ep, er, et]
  · have ep := papers_ok c (stD (r, []) k) (some (dA t)) (some (ppA z)) (drawn ++ [z, (z.1, z.2.1, none)]) e0 e2 e3 e4 e8 e9 e11 e12 (some (.lst (drawn.map ppA))) e14 e15 e16 (fun y hy => by
      rcases List.mem_append.mp hy with hy | hy
      · exact hd y hy
      · simp only [List.mem_cons, List.not_mem_nil, or_false] at hy
        rcases hy with rfl | rfl
        · exact hz
        · exact ⟨hz.1, fun x hx => by cases hx⟩)
    rw [List.map_append] at ep
    simp only [List.map_cons, List.map_nil] at ep
    have ea : opAdd (.lst (drawn.map ppA)) (.lst [ppA z, ppA (z.1, z.2.1, none)]) (stD (r, []) k) = .ok (.lst (drawn.map ppA ++ [ppA z, ppA (z.1, z.2.1, none)])) (stD (r, []) k) := by
      rw [opAdd_lst _ _ (by simp; omega)]
    have esl : ∀ S, opSl (ppA z) none (some 2) S = .ok (ppA (z.1, z.2.1, none)) S := fun S => by
      obtain ⟨w, u, v⟩ := z
      cases v with
      | none => show opSl (.tup _) _ _ _ = _; rw [opSl_tup, cut_two _ (by simp)]; rfl
      | some v => show opSl (.tup _) _ _ _ = _; rw [opSl_tup, cut_two _ (by simp)]; rfl
    have el : m_law_fault [codeA c, ppA z] (stD (r, []) k) = .ok (.bl true) (stD (r, []) k) := by
      have := law_fault_ok c z.1 z.2.1 z.2.2 (stD (r, []) k) hz.1 hz.2
      rw [ht] at this
      exact this
    have en : isNon (ppA z) = false := by
      obtain ⟨w, u, v⟩ := z
      cases v <;> rfl
    generalize partA c = pa at *
    generalize fnA c = fa at *
    generalize codeA c = ca at *
    generalize rgN 0 4 = X at *
    generalize drawn.map ppA = D at *
    generalize stD (r, []) k = S0 at *
    generalize ppA (z.1, z.2.1, none) = Z2 at *
    generalize ppA z = Z at *
    simp [b_law_8, b_law_7, b_law_6, b_law_5, en, esl, ea, ep, el, er, et]
end K02
end
section
set_option Elab.async false
set_option linter.all false
set_option maxRecDepth 100000
set_option maxHeartbeats 4000000
set_option autoImplicit false
/-! the law. -/
namespace K02
open PySem PySem.Spec PyProof.Rows L2 VM
theorem range_pt (m : Nat) (h : m ≤ 1000) (S : Store) : opRgT (.int ((m + 1 : Nat) : Int)) S = .ok (pt ((List.range m).map (fun (j : Nat) => (j : Int)) ++ [(m : Int)])) S := by
  show (if 0 ≤ ((m + 1 : Nat) : Int) ∧ ((m + 1 : Nat) : Int) ≤ 16777216 then R.ok (A.tup ((List.range ((m + 1 : Nat) : Int).toNat).map fun k => .int (k : Nat))) S else .bad) = _
  rw [if_pos (by omega)]
  have : (((m + 1 : Nat) : Int)).toNat = m + 1 := by omega
  rw [this, List.range_succ]
  simp [pt]
theorem law10_ok (c : List Ins) (hc : WFc c) (hcl : 0 < c.length) (r : List Int) (t : Int) (k : Nat) (hk : k + 200 ≤ 900000) (fault : A)
    (hf : fault = .non ∨ ∃ z : PP, ppOk z ∧ z.2.1.length ≤ 64 ∧ fault = ppA z ∧ faultT c z.1 z.2.1 z.2.2 = true) (e0 e2 e3 e4 e8 e9 e11 : Option A) :
    ∃ k', b_law_10 [e0, some (dA t), e2, e3, e4, some (fnA c), some (codeA c), some (partA c), e8, e9, some fault, e11, none, none, none, none, none] (stD (r, []) k) = .rt (.bl true) (stD (r, []) k') := by
  have hlen := hc.len
  rcases hf with rfl | ⟨z, hz, hl, rfl, ht⟩
  · obtain ⟨v, v1, v2, ev⟩ := take_ok (r, []) t k (c.length : Nat) (by omega) (by omega)
    obtain ⟨m, rfl⟩ : ∃ n : Nat, v = n := ⟨v.toNat, by omega⟩
    have e1 := len_code c (stD (r, []) k)
    have e2' := range_pt m (by omega) (stD (r, []) (k + 1))
    have e3' : (1 : Int) + (m : Nat) = ((m + 1 : Nat) : Int) := by omega
    rw [← e3'] at e2'
    have hp : ((List.range m).map (fun (j : Nat) => (j : Int))).length ≤ 100 := by simp; omega
    generalize (List.range m).map (fun (j : Nat) => (j : Int)) = p at *
    have e9' := law9_ok p (m : Int) hp e0 (some (dA t)) e2 e3 e4 (some (fnA c)) (some (codeA c)) (some (partA c)) e8 e9 (some .non) e11 (stD (r, []) (k + 1))
    obtain ⟨k', e8'⟩ := law8_ok c hc r t (k + 1) (by omega) (drawnP p m) (drawnP_ok p m hp) (by simp [drawnP]) .non (.inl rfl) e0 e2 e3 e4 e8 e9 e11 (some (pt (p ++ [(m : Int)]))) none none none
    refine ⟨k', ?_⟩
    rw [← e8', ← e9']
    unfold b_law_10
    generalize b_law_9 = B
    generalize pt (p ++ [(m : Int)]) = P at *
    generalize partA c = pa at *
    generalize fnA c = fa at *
    generalize codeA c = ca at *
    generalize stD (r, []) k = S0 at *
    generalize stD (r, []) (k + 1) = S1 at *
    simp [e1, ev, e2']
  · obtain ⟨w, u, v⟩ := z
    simp only at hl ht
    have hne : u ≠ [] := by
      unfold faultT at ht
      cases ha : alongT c u with
      | none => rw [ha] at ht; cases ht
      | some s => exact (alongT_len ha).2
    obtain ⟨p, x, rfl⟩ : ∃ p x, u = p ++ [x] := by
      rcases snoc_cases u with h | h
      · exact absurd h hne
      · exact h
    have hp : p.length ≤ 100 := by simp at hl; omega
    have e9' := law9_ok p x hp e0 (some (dA t)) e2 e3 e4 (some (fnA c)) (some (codeA c)) (some (partA c)) e8 e9 (some (ppA (w, p ++ [x], v))) e11 (stD (r, []) k)
    obtain ⟨k', e8'⟩ := law8_ok c hc r t k (by omega) (drawnP p x) (drawnP_ok p x hp) (by simp [drawnP]) (ppA (w, p ++ [x], v)) (.inr ⟨_, hz, rfl, ht⟩) e0 e2 e3 e4 e8 e9 e11 (some (pt (p ++ [x]))) none none none
    refine ⟨k', ?_⟩
    rw [← e8', ← e9']
    have en : isNon (ppA (w, p ++ [x], v)) = false := by cases v <;> rfl
    have ei : ∀ S, opIx (ppA (w, p ++ [x], v)) (.int 1) S = .ok (pt (p ++ [x])) S := fun S => by cases v <;> exact opIx_t1 _ _
    unfold b_law_10
    generalize b_law_9 = B
    generalize ppA (w, p ++ [x], v) = Z at *
    generalize pt (p ++ [x]) = P at *
    generalize partA c = pa at *
    generalize fnA c = fa at *
    generalize codeA c = ca at *
    generalize stD (r, []) k = S0 at *
    simp [en, ei]
@[simp] theorem opEq_bb (a b : Bool) (S : Store) : opEq (.bl a) (.bl b) S = .ok (.bl (decide (a = b))) S := by cases a <;> cases b <;> kernel_rfl
@[simp] theorem opNe_bb (a b : Bool) (S : Store) : opNe (.bl a) (.bl b) S = .ok (.bl (!decide (a = b))) S := by cases a <;> cases b <;> kernel_rfl
theorem law15_ok (c : List Ins) (hc : WFc c) (hcl : 0 < c.length) (r : List Int) (t : Int) (k : Nat) (hk : k + 400 ≤ 900000) (e0 e2 e3 e4 : Option A) :
    ∃ k', b_law_15 [e0, some (dA t), e2, e3, e4, some (fnA c), some (codeA c), some (partA c), none, none, none, none, none, none, none, none, none] (stD (r, []) k) = .rt (.bl true) (stD (r, []) k') := by
  have hi := run_inv c hc 100 b0 0 rfl (inv0 c)
  have e1 := least_ok c hc (stD (r, []) k)
  have e2' := least_map_ok c (stD (r, []) k)
  have e3' := fault_paper_ok c (stD (r, []) k)
  have ne : wrun c 100 b0 0 ≠ .out := fun z => by rw [z] at hi; exact hi
  have e4' := accepted_ok c hc ne (stD (r, []) k)
  generalize wrun c 100 b0 0 = R at *
  cases R with
  | out => exact absurd rfl ne
  | done b at_ =>
    obtain ⟨i1, i2, i3, i4⟩ := hi
    simp only at e1 e2' e3'
    simp only [Res.isDone] at e4'
    have nd : (b.f.map (·.1)).Nodup := by rw [i1.1]; exact i2.1
    have hd : ∀ q ∈ b.f, look2 b.f q.1 = some q.2 ∧ q.2.length ≤ 1000 := fun q hq => by
      have := look2_mem b.f nd q hq
      exact ⟨this, by have := i3 q.1 q.2 this; omega⟩
    have hg : Good b.f := ⟨nd, fun q hq => (hd q hq).2⟩
    have hlen : b.f.length ≤ 61 := by
      have := inq_len i2
      rw [← i1.1, List.length_map] at this
      exact this
    have hpos : 0 < b.f.length := by
      have h0 : look2 b.f 0 = some [] := by
        unfold mapT at i4
        exact of_decide_eq_true (Bool.and_eq_true_iff.mp i4).1
      cases hb : b.f with
      | nil => rw [hb] at h0; cases h0
      | cons x l => simp
    have m1 := ne2_self b.f (fun q hq => (hd q hq).1) (stD (r, []) k)
    have m2 := law_map_ok c b.f (stD (r, []) k) hd
    rw [i4] at m2
    obtain ⟨ms, g1, m3⟩ := changed_map_ok r t k (by omega) b.f hg hd (by omega) hpos
    have m4 := maps_ok c (stD (r, []) (k + 1)) (some (dA t)) (some .non) ms e0 e2 e3 e4 (some (.dic (fA b.f))) (some (.dic (fA b.f))) none none none none none none g1
    obtain ⟨k', m5⟩ := law10_ok c hc hcl r t (k + 1) (by omega) .non (.inl rfl) none none none none none none none
    refine ⟨k', ?_⟩
    rw [← m5]
    have l1 := law_bool_ok true true (stD (r, []) k)
    clear m5
    unfold b_law_15 b_law_14 b_law_13 b_law_12 b_law_11
    generalize b_law_10 = B
    generalize fA b.f = D at *
    generalize dcs ms = L at *
    generalize partA c = pa at *
    generalize fnA c = fa at *
    generalize codeA c = ca at *
    generalize stD (r, []) k = S0 at *
    generalize stD (r, []) (k + 1) = S1 at *
    simp [e1, e2', e3', e4', l1, m1, m2, m3, m4]
  | stuck b p =>
    obtain ⟨i1, i2⟩ := hi
    simp only at e1 e2' e3'
    simp only [Res.isDone] at e4'
    obtain ⟨k', m5⟩ := law10_ok c hc hcl r t k (by omega) (paperA "stuck" p none) (.inr ⟨("stuck", p, none), ⟨by show p.length ≤ 900; omega, fun x hx => by cases hx⟩, by show p.length ≤ 64; omega, rfl, i1⟩) e0 e2 e3 e4 (some .non) (some .non) none
    refine ⟨k', ?_⟩
    rw [← m5]
    have l1 := law_bool_ok false false (stD (r, []) k)
    have en : isNon (paperA "stuck" p none) = false := rfl
    clear m5
    unfold b_law_15 b_law_14 b_law_13 b_law_12 b_law_11
    generalize b_law_10 = B
    generalize paperA "stuck" p none = F at *
    generalize partA c = pa at *
    generalize fnA c = fa at *
    generalize codeA c = ca at *
    generalize stD (r, []) k = S0 at *
    simp [e1, e2', e3', e4', l1, en]
  | apart b u v =>
    obtain ⟨i1, i2, i3⟩ := hi
    simp only at e1 e2' e3'
    simp only [Res.isDone] at e4'
    obtain ⟨k', m5⟩ := law10_ok c hc hcl r t k (by omega) (paperA "apart" u (some v)) (.inr ⟨("apart", u, some v), ⟨by show u.length ≤ 900; omega, fun x hx => by cases hx; omega⟩, by show u.length ≤ 64; omega, rfl, i1⟩) e0 e2 e3 e4 (some .non) (some .non) none
    refine ⟨k', ?_⟩
    rw [← m5]
    have l1 := law_bool_ok false false (stD (r, []) k)
    have en : isNon (paperA "apart" u (some v)) = false := rfl
    clear m5
    unfold b_law_15 b_law_14 b_law_13 b_law_12 b_law_11
    generalize b_law_10 = B
    generalize paperA "apart" u (some v) = F at *
    generalize partA c = pa at *
    generalize fnA c = fa at *
    generalize codeA c = ca at *
    generalize stD (r, []) k = S0 at *
    simp [e1, e2', e3', e4', l1, en]
theorem law_true (ns : List Int) (h : ns.length ≤ 63) : ∃ S', m_law [.lst (ns.map .int)] [] = .ok (.bl true) S' := by
  obtain ⟨r, t, ed⟩ := deal_ok ns h
  obtain ⟨T, k1, hT, h58, hk1, et⟩ := tree_ok (r, []) t 0 (by decide)
  have ep := parts_ok T hT (stD (r, []) k1)
  obtain ⟨c, k2, hc, hcl, hk2, ef⟩ := function_drawn r t k1 T hT h58 (by omega)
  obtain ⟨k3, el⟩ := law15_ok c hc hcl r t k2 (by omega) (some (.lst (ns.map .int))) (some T.a) (some (libA T)) (some (partA T.main))
  refine ⟨stD (r, []) k3, ?_⟩
  have i1 : ∀ S, opIx (partA T.main) (.int 1) S = .ok (.tup []) S := fun S => opIx_t1 _ _
  have i2 : ∀ S, opIx (partA T.main) (.int 2) S = .ok usesA S := fun S => opIx_t2 _ _ _
  have i4 : ∀ S, opIx (partA T.main) (.int 4) S = .ok (.tup [.str "go"]) S := fun S => opIx_t4 _ _ _ _ _
  have f4 : ∀ S, opIx (fnA c) (.int 4) S = .ok (codeA c) S := fun S => fn_code c S
  unfold m_law
  have epa : partA c = .tup [.str "main", .tup [], usesA, .tup [fnA c], .tup [.str "go"]] := rfl
  rw [epa] at el
  unfold b_law b_law_20 b_law_19 b_law_18 b_law_17 b_law_16
  generalize b_law_15 = B at *
  generalize A.lst (ns.map .int) = N at *
  generalize T.a = ta at *
  generalize libA T = la at *
  generalize partA T.main = pm at *
  generalize usesA = ua at *
  generalize fnA c = fa at *
  generalize codeA c = ca at *
  simp [ed, et, ep, i1, i2, i4, ef, f4, el]
end K02
end
section
set_option Elab.async false
set_option linter.all false
set_option maxRecDepth 100000
set_option maxHeartbeats 0
set_option autoImplicit false
/-! The head: the run of the module, what it leaves. -/
namespace K02
open PySem PySem.Spec PyProof.Rows L2 VM
def d_is_name : He.DefD := ⟨("is_name", none), "is_name", "is_name", defArgs st_is_name, defBody st_is_name, defScope st_is_name, [], []⟩
def d_is_full : He.DefD := ⟨("is_full", none), "is_full", "is_full", defArgs st_is_full, defBody st_is_full, defScope st_is_full, [], []⟩
def d_is_word : He.DefD := ⟨("is_word", none), "is_word", "is_word", defArgs st_is_word, defBody st_is_word, defScope st_is_word, [], []⟩
def d_part_of : He.DefD := ⟨("part_of", none), "part_of", "part_of", defArgs st_part_of, defBody st_part_of, defScope st_part_of, [], []⟩
def d_own : He.DefD := ⟨("own", none), "own", "own", defArgs st_own, defBody st_own, defScope st_own, [], []⟩
def d_record_of : He.DefD := ⟨("record_of", none), "record_of", "record_of", defArgs st_record_of, defBody st_record_of, defScope st_record_of, [], []⟩
def d_signature : He.DefD := ⟨("signature", none), "signature", "signature", defArgs st_signature, defBody st_signature, defScope st_signature, [], []⟩
def d_is_type : He.DefD := ⟨("is_type", none), "is_type", "is_type", defArgs st_is_type, defBody st_is_type, defScope st_is_type, [], []⟩
def d_are_types : He.DefD := ⟨("are_types", none), "are_types", "are_types", defArgs st_are_types, defBody st_are_types, defScope st_are_types, [], []⟩
def d_is_result : He.DefD := ⟨("is_result", none), "is_result", "is_result", defArgs st_is_result, defBody st_is_result, defScope st_is_result, [], []⟩
def d_are_different : He.DefD := ⟨("are_different", none), "are_different", "are_different", defArgs st_are_different, defBody st_are_different, defScope st_are_different, [], []⟩
def d_is_instruction : He.DefD := ⟨("is_instruction", none), "is_instruction", "is_instruction", defArgs st_is_instruction, defBody st_is_instruction, defScope st_is_instruction, [], []⟩
def d_is_function : He.DefD := ⟨("is_function", none), "is_function", "is_function", defArgs st_is_function, defBody st_is_function, defScope st_is_function, [], []⟩
def d_is_use : He.DefD := ⟨("is_use", none), "is_use", "is_use", defArgs st_is_use, defBody st_is_use, defScope st_is_use, [], []⟩
def d_is_open : He.DefD := ⟨("is_open", none), "is_open", "is_open", defArgs st_is_open, defBody st_is_open, defScope st_is_open, [], []⟩
def d_is_part : He.DefD := ⟨("is_part", none), "is_part", "is_part", defArgs st_is_part, defBody st_is_part, defScope st_is_part, [], []⟩
def d_slots_of : He.DefD := ⟨("slots_of", none), "slots_of", "slots_of", defArgs st_slots_of, defBody st_slots_of, defScope st_slots_of, [], []⟩
def d_taken : He.DefD := ⟨("taken", none), "taken", "taken", defArgs st_taken, defBody st_taken, defScope st_taken, [], []⟩
def d_changed : He.DefD := ⟨("changed", none), "changed", "changed", defArgs st_changed, defBody st_changed, defScope st_changed, [], []⟩
def d_with_slot : He.DefD := ⟨("with_slot", none), "with_slot", "with_slot", defArgs st_with_slot, defBody st_with_slot, defScope st_with_slot, [], []⟩
def d_with_thing : He.DefD := ⟨("with_thing", none), "with_thing", "with_thing", defArgs st_with_thing, defBody st_with_thing, defScope st_with_thing, [], []⟩
def d_with_top : He.DefD := ⟨("with_top", none), "with_top", "with_top", defArgs st_with_top, defBody st_with_top, defScope st_with_top, [], []⟩
def d_with_call : He.DefD := ⟨("with_call", none), "with_call", "with_call", defArgs st_with_call, defBody st_with_call, defScope st_with_call, [], []⟩
def d_stack_behind : He.DefD := ⟨("stack_behind", none), "stack_behind", "stack_behind", defArgs st_stack_behind, defBody st_stack_behind, defScope st_stack_behind, [], []⟩
def d_steps_of : He.DefD := ⟨("steps_of", none), "steps_of", "steps_of", defArgs st_steps_of, defBody st_steps_of, defScope st_steps_of, [], []⟩
def d_shows_map : He.DefD := ⟨("shows_map", none), "shows_map", "shows_map", defArgs st_shows_map, defBody st_shows_map, defScope st_shows_map, [], []⟩
def d_walked : He.DefD := ⟨("walked", none), "walked", "walked", defArgs st_walked, defBody st_walked, defScope st_walked, [], []⟩
def d_least_map : He.DefD := ⟨("least_map", none), "least_map", "least_map", defArgs st_least_map, defBody st_least_map, defScope st_least_map, [], []⟩
def d_fault_paper : He.DefD := ⟨("fault_paper", none), "fault_paper", "fault_paper", defArgs st_fault_paper, defBody st_fault_paper, defScope st_fault_paper, [], []⟩
def d_stack_along : He.DefD := ⟨("stack_along", none), "stack_along", "stack_along", defArgs st_stack_along, defBody st_stack_along, defScope st_stack_along, [], []⟩
def d_shows_fault : He.DefD := ⟨("shows_fault", none), "shows_fault", "shows_fault", defArgs st_shows_fault, defBody st_shows_fault, defScope st_shows_fault, [], []⟩
def d_is_accepted : He.DefD := ⟨("is_accepted", none), "is_accepted", "is_accepted", defArgs st_is_accepted, defBody st_is_accepted, defScope st_is_accepted, [], []⟩
def d_law_deal : He.DefD := ⟨("_law_deal", none), "_law_deal", "_law_deal", defArgs st__law_deal, defBody st__law_deal, defScope st__law_deal, [], []⟩
def d_law_take : He.DefD := ⟨("_law_take", none), "_law_take", "_law_take", defArgs st__law_take, defBody st__law_take, defScope st__law_take, [], []⟩
def d_law_same : He.DefD := ⟨("_law_same", none), "_law_same", "_law_same", defArgs st__law_same, defBody st__law_same, defScope st__law_same, [], []⟩
def d_law_bool : He.DefD := ⟨("_law_bool", none), "_law_bool", "_law_bool", defArgs st__law_bool, defBody st__law_bool, defScope st__law_bool, [], []⟩
def d_law_pick : He.DefD := ⟨("_law_pick", none), "_law_pick", "_law_pick", defArgs st__law_pick, defBody st__law_pick, defScope st__law_pick, [], []⟩
def d_law_word : He.DefD := ⟨("_law_word", none), "_law_word", "_law_word", defArgs st__law_word, defBody st__law_word, defScope st__law_word, [], []⟩
def d_law_expr : He.DefD := ⟨("_law_expr", none), "_law_expr", "_law_expr", defArgs st__law_expr, defBody st__law_expr, defScope st__law_expr, [], []⟩
def d_law_statement : He.DefD := ⟨("_law_statement", none), "_law_statement", "_law_statement", defArgs st__law_statement, defBody st__law_statement, defScope st__law_statement, [], []⟩
def d_law_tree : He.DefD := ⟨("_law_tree", none), "_law_tree", "_law_tree", defArgs st__law_tree, defBody st__law_tree, defScope st__law_tree, [], []⟩
def d_law_code : He.DefD := ⟨("_law_code", none), "_law_code", "_law_code", defArgs st__law_code, defBody st__law_code, defScope st__law_code, [], []⟩
def d_law_statement_code : He.DefD := ⟨("_law_statement_code", none), "_law_statement_code", "_law_statement_code", defArgs st__law_statement_code, defBody st__law_statement_code, defScope st__law_statement_code, [], []⟩
def d_law_body_code : He.DefD := ⟨("_law_body_code", none), "_law_body_code", "_law_body_code", defArgs st__law_body_code, defBody st__law_body_code, defScope st__law_body_code, [], []⟩
def d_law_main_code : He.DefD := ⟨("_law_main_code", none), "_law_main_code", "_law_main_code", defArgs st__law_main_code, defBody st__law_main_code, defScope st__law_main_code, [], []⟩
def d_law_parts : He.DefD := ⟨("_law_parts", none), "_law_parts", "_law_parts", defArgs st__law_parts, defBody st__law_parts, defScope st__law_parts, [], []⟩
def d_law_drawn : He.DefD := ⟨("_law_drawn", none), "_law_drawn", "_law_drawn", defArgs st__law_drawn, defBody st__law_drawn, defScope st__law_drawn, [], []⟩
def d_law_function : He.DefD := ⟨("_law_function", none), "_law_function", "_law_function", defArgs st__law_function, defBody st__law_function, defScope st__law_function, [], []⟩
def d_law_behind : He.DefD := ⟨("_law_behind", none), "_law_behind", "_law_behind", defArgs st__law_behind, defBody st__law_behind, defScope st__law_behind, [], []⟩
def d_law_steps : He.DefD := ⟨("_law_steps", none), "_law_steps", "_law_steps", defArgs st__law_steps, defBody st__law_steps, defScope st__law_steps, [], []⟩
def d_law_map : He.DefD := ⟨("_law_map", none), "_law_map", "_law_map", defArgs st__law_map, defBody st__law_map, defScope st__law_map, [], []⟩
def d_law_along : He.DefD := ⟨("_law_along", none), "_law_along", "_law_along", defArgs st__law_along, defBody st__law_along, defScope st__law_along, [], []⟩
def d_law_fault : He.DefD := ⟨("_law_fault", none), "_law_fault", "_law_fault", defArgs st__law_fault, defBody st__law_fault, defScope st__law_fault, [], []⟩
def d_law_least : He.DefD := ⟨("_law_least", none), "_law_least", "_law_least", defArgs st__law_least, defBody st__law_least, defScope st__law_least, [], []⟩
def d_law_changed_map : He.DefD := ⟨("_law_changed_map", none), "_law_changed_map", "_law_changed_map", defArgs st__law_changed_map, defBody st__law_changed_map, defScope st__law_changed_map, [], []⟩
def d_law : He.DefD := ⟨("law", none), "law", "law", defArgs st_law, defBody st_law, defScope st_law, [], []⟩
def fn : List He.DefD := [d_is_name, d_is_full, d_is_word, d_part_of, d_own, d_record_of, d_signature, d_is_type, d_are_types, d_is_result, d_are_different, d_is_instruction, d_is_function, d_is_use, d_is_open, d_is_part, d_slots_of, d_taken, d_changed, d_with_slot, d_with_thing, d_with_top, d_with_call, d_stack_behind, d_steps_of, d_shows_map, d_walked, d_least_map, d_fault_paper, d_stack_along, d_shows_fault, d_is_accepted, d_law_deal, d_law_take, d_law_same, d_law_bool, d_law_pick, d_law_word, d_law_expr, d_law_statement, d_law_tree, d_law_code, d_law_statement_code, d_law_body_code, d_law_main_code, d_law_parts, d_law_drawn, d_law_function, d_law_behind, d_law_steps, d_law_map, d_law_along, d_law_fault, d_law_least, d_law_changed_map, d_law]
def fa : List He.Fa := [.glo "is_name", .glo "is_full", .glo "is_word", .glo "part_of", .glo "own", .glo "record_of", .glo "signature", .glo "is_type", .glo "are_types", .glo "is_result", .glo "are_different", .glo "is_instruction", .glo "is_function", .glo "is_use", .glo "is_open", .glo "is_part", .glo "slots_of", .glo "taken", .glo "changed", .glo "with_slot", .glo "with_thing", .glo "with_top", .glo "with_call", .glo "stack_behind", .glo "steps_of", .glo "shows_map", .glo "walked", .glo "least_map", .glo "fault_paper", .glo "stack_along", .glo "shows_fault", .glo "is_accepted", .glo "_law_deal", .glo "_law_take", .glo "_law_same", .glo "_law_bool", .glo "_law_pick", .glo "_law_word", .glo "_law_expr", .glo "_law_statement", .glo "_law_tree", .glo "_law_code", .glo "_law_statement_code", .glo "_law_body_code", .glo "_law_main_code", .glo "_law_parts", .glo "_law_drawn", .glo "_law_function", .glo "_law_behind", .glo "_law_steps", .glo "_law_map", .glo "_law_along", .glo "_law_fault", .glo "_law_least", .glo "_law_changed_map", .glo "law", .free "abs", .free "bool", .free "int", .free "isinstance", .free "len", .free "list", .free "min", .free "range", .free "set", .free "sorted", .free "str", .free "sum", .free "tuple", .glo "FIXED"]
def ts : List He.Tab := [(fun K => He.ga K "FIXED", ["push", "row", "at", "put", "size", "say", "branch", "jump", "trap"])]
def cs : List (Str × A) := [("LETTERS", k_LETTERS), ("DIGITS", k_DIGITS), ("LONGEST_NAME", k_LONGEST_NAME), ("LEAST_WORD", k_LEAST_WORD), ("GREATEST_WORD", k_GREATEST_WORD), ("INT", k_INT), ("INTS", k_INTS), ("NO_RESULT", k_NO_RESULT), ("FIELDS", k_FIELDS), ("PLAIN", k_PLAIN), ("MOST_RECORDS", k_MOST_RECORDS), ("MOST_FIELDS", k_MOST_FIELDS), ("MOST_USES", k_MOST_USES), ("MOST_FUNCTIONS", k_MOST_FUNCTIONS), ("MOST_PLACES", k_MOST_PLACES), ("MOST_SLOTS", k_MOST_SLOTS), ("SUMS", k_SUMS)]
def ds : List (Str × List (Str × Option A)) := [("FIXED", t_FIXED)]
def ex (K : PySem.W.Frag) : Bool := (cs.all fun q => kgB K q.1 q.2) && ds.all fun q => tabB K q.1 q.2
def loose0 : List Str := ["LETTERS", "DIGITS", "LONGEST_NAME", "LEAST_WORD", "GREATEST_WORD", "is_name", "is_full", "is_word", "part_of", "INT", "INTS", "NO_RESULT", "FIELDS", "PLAIN", "MOST_RECORDS", "MOST_FIELDS", "MOST_USES", "MOST_FUNCTIONS", "MOST_PLACES", "MOST_SLOTS", "own", "record_of", "signature", "is_type", "are_types", "is_result", "are_different", "is_instruction", "is_function", "is_use"]
def loose1 : List Str := ["is_open", "is_part", "slots_of", "SUMS", "taken", "changed", "with_slot", "with_thing", "with_top", "with_call", "FIXED", "stack_behind", "steps_of", "shows_map", "walked", "least_map", "fault_paper", "stack_along", "shows_fault", "is_accepted", "_law_deal", "_law_take", "_law_same", "_law_bool", "_law_pick", "_law_word", "_law_expr", "_law_statement", "_law_tree", "_law_code"]
def loose2 : List Str := ["_law_statement_code", "_law_body_code", "_law_main_code", "_law_parts", "_law_drawn", "_law_function", "_law_behind", "_law_steps", "_law_map", "_law_along", "_law_fault", "_law_least", "_law_changed_map"]
def loose : List Str := loose0 ++ loose1 ++ loose2
abbrev Rw : PySem.W.OpenRow := PySem.W.OpenLaw.row PySem.Challenge.rw_partsrun_k02_whole_map_or_fault
abbrev hk : PySem.W.Hook := He.hookX 4 fa fn ts [] ex
def ob (s : PySem.W.SharedT) : He.AlX := He.obsX 4 fa fn ts [] ex (HandSHeadRun.getT s)
theorem ob_eq (s : PySem.W.SharedT) : ob s = hk.obs s.abs := He.obsX_eq (HandSHeadRun.getT_eq s)
theorem run (w : World) : HandSHeadRun.RunEq Rw (PySem.W.view Rw.prog [78]) hk ob 3000 loose w :=
  PySem.W.byRow2 "special-get-raises" (P := fun w => HandSHeadRun.RunEq Rw (PySem.W.view Rw.prog [78]) hk ob 3000 loose w) (fun w => by intro os; kernel_rfl) (fun w => by intro os; kernel_rfl) w
theorem facts {w : World} {K : PySem.W.Frag} {h : Heap} {mg : Str → Option Value} (X : K.In h) (G : h.Ns mainGlobals mg) (c : He.SaysX fa fn ts [] ex w h K) : Facts w K mg := by
  have d := c.t.d
  obtain ⟨c1, c2⟩ := He.ba (show ((cs.all fun q => kgB K q.1 q.2) && ds.all fun q => tabB K q.1 q.2) = true from c.more)
  have kc : ∀ (i : Nat) (q : Str × A), cs[i]? = some q → KG mg K q.1 q.2 := fun i q e => kg_ok X G (List.all_eq_true.mp c1 q (List.mem_of_getElem? e))
  have kd : ∀ (i : Nat) (q : Str × List (Str × Option A)), ds[i]? = some q → tabB K q.1 q.2 = true := fun i q e => List.all_eq_true.mp c2 q (List.mem_of_getElem? e)
  exact {
    b_abs := He.free_ok X G (d.fact 56 (f := .free "abs") rfl)
    b_bool := He.free_ok X G (d.fact 57 (f := .free "bool") rfl)
    b_int := He.free_ok X G (d.fact 58 (f := .free "int") rfl)
    b_isinstance := He.free_ok X G (d.fact 59 (f := .free "isinstance") rfl)
    b_len := He.free_ok X G (d.fact 60 (f := .free "len") rfl)
    b_list := He.free_ok X G (d.fact 61 (f := .free "list") rfl)
    b_min := He.free_ok X G (d.fact 62 (f := .free "min") rfl)
    b_range := He.free_ok X G (d.fact 63 (f := .free "range") rfl)
    b_set := He.free_ok X G (d.fact 64 (f := .free "set") rfl)
    b_sorted := He.free_ok X G (d.fact 65 (f := .free "sorted") rfl)
    b_str := He.free_ok X G (d.fact 66 (f := .free "str") rfl)
    b_sum := He.free_ok X G (d.fact 67 (f := .free "sum") rfl)
    b_tuple := He.free_ok X G (d.fact 68 (f := .free "tuple") rfl)
    k_LETTERS := kc 0 _ rfl
    k_DIGITS := kc 1 _ rfl
    k_LONGEST_NAME := kc 2 _ rfl
    k_LEAST_WORD := kc 3 _ rfl
    k_GREATEST_WORD := kc 4 _ rfl
    k_INT := kc 5 _ rfl
    k_INTS := kc 6 _ rfl
    k_NO_RESULT := kc 7 _ rfl
    k_FIELDS := kc 8 _ rfl
    k_PLAIN := kc 9 _ rfl
    k_MOST_RECORDS := kc 10 _ rfl
    k_MOST_FIELDS := kc 11 _ rfl
    k_MOST_USES := kc 12 _ rfl
    k_MOST_FUNCTIONS := kc 13 _ rfl
    k_MOST_PLACES := kc 14 _ rfl
    k_MOST_SLOTS := kc 15 _ rfl
    k_SUMS := kc 16 _ rfl
    t_FIXED := tab_ok (He.glo_ok X G (d.fact 69 (f := .glo "FIXED") rfl)) (c.t.tab 0 rfl) (kd 0 _ rfl)
    g_is_name := He.glo_ok X G (d.fact 0 (f := .glo "is_name") rfl)
    d_is_name := d.def_ 0 (d := d_is_name) rfl
    g_is_full := He.glo_ok X G (d.fact 1 (f := .glo "is_full") rfl)
    d_is_full := d.def_ 1 (d := d_is_full) rfl
    g_is_word := He.glo_ok X G (d.fact 2 (f := .glo "is_word") rfl)
    d_is_word := d.def_ 2 (d := d_is_word) rfl
    g_part_of := He.glo_ok X G (d.fact 3 (f := .glo "part_of") rfl)
    d_part_of := d.def_ 3 (d := d_part_of) rfl
    g_own := He.glo_ok X G (d.fact 4 (f := .glo "own") rfl)
    d_own := d.def_ 4 (d := d_own) rfl
    g_record_of := He.glo_ok X G (d.fact 5 (f := .glo "record_of") rfl)
    d_record_of := d.def_ 5 (d := d_record_of) rfl
    g_signature := He.glo_ok X G (d.fact 6 (f := .glo "signature") rfl)
    d_signature := d.def_ 6 (d := d_signature) rfl
    g_is_type := He.glo_ok X G (d.fact 7 (f := .glo "is_type") rfl)
    d_is_type := d.def_ 7 (d := d_is_type) rfl
    g_are_types := He.glo_ok X G (d.fact 8 (f := .glo "are_types") rfl)
    d_are_types := d.def_ 8 (d := d_are_types) rfl
    g_is_result := He.glo_ok X G (d.fact 9 (f := .glo "is_result") rfl)
    d_is_result := d.def_ 9 (d := d_is_result) rfl
    g_are_different := He.glo_ok X G (d.fact 10 (f := .glo "are_different") rfl)
    d_are_different := d.def_ 10 (d := d_are_different) rfl
    g_is_instruction := He.glo_ok X G (d.fact 11 (f := .glo "is_instruction") rfl)
    d_is_instruction := d.def_ 11 (d := d_is_instruction) rfl
    g_is_function := He.glo_ok X G (d.fact 12 (f := .glo "is_function") rfl)
    d_is_function := d.def_ 12 (d := d_is_function) rfl
    g_is_use := He.glo_ok X G (d.fact 13 (f := .glo "is_use") rfl)
    d_is_use := d.def_ 13 (d := d_is_use) rfl
    g_is_open := He.glo_ok X G (d.fact 14 (f := .glo "is_open") rfl)
    d_is_open := d.def_ 14 (d := d_is_open) rfl
    g_is_part := He.glo_ok X G (d.fact 15 (f := .glo "is_part") rfl)
    d_is_part := d.def_ 15 (d := d_is_part) rfl
    g_slots_of := He.glo_ok X G (d.fact 16 (f := .glo "slots_of") rfl)
    d_slots_of := d.def_ 16 (d := d_slots_of) rfl
    g_taken := He.glo_ok X G (d.fact 17 (f := .glo "taken") rfl)
    d_taken := d.def_ 17 (d := d_taken) rfl
    g_changed := He.glo_ok X G (d.fact 18 (f := .glo "changed") rfl)
    d_changed := d.def_ 18 (d := d_changed) rfl
    g_with_slot := He.glo_ok X G (d.fact 19 (f := .glo "with_slot") rfl)
    d_with_slot := d.def_ 19 (d := d_with_slot) rfl
    g_with_thing := He.glo_ok X G (d.fact 20 (f := .glo "with_thing") rfl)
    d_with_thing := d.def_ 20 (d := d_with_thing) rfl
    g_with_top := He.glo_ok X G (d.fact 21 (f := .glo "with_top") rfl)
    d_with_top := d.def_ 21 (d := d_with_top) rfl
    g_with_call := He.glo_ok X G (d.fact 22 (f := .glo "with_call") rfl)
    d_with_call := d.def_ 22 (d := d_with_call) rfl
    g_stack_behind := He.glo_ok X G (d.fact 23 (f := .glo "stack_behind") rfl)
    d_stack_behind := d.def_ 23 (d := d_stack_behind) rfl
    g_steps_of := He.glo_ok X G (d.fact 24 (f := .glo "steps_of") rfl)
    d_steps_of := d.def_ 24 (d := d_steps_of) rfl
    g_shows_map := He.glo_ok X G (d.fact 25 (f := .glo "shows_map") rfl)
    d_shows_map := d.def_ 25 (d := d_shows_map) rfl
    g_walked := He.glo_ok X G (d.fact 26 (f := .glo "walked") rfl)
    d_walked := d.def_ 26 (d := d_walked) rfl
    g_least_map := He.glo_ok X G (d.fact 27 (f := .glo "least_map") rfl)
    d_least_map := d.def_ 27 (d := d_least_map) rfl
    g_fault_paper := He.glo_ok X G (d.fact 28 (f := .glo "fault_paper") rfl)
    d_fault_paper := d.def_ 28 (d := d_fault_paper) rfl
    g_stack_along := He.glo_ok X G (d.fact 29 (f := .glo "stack_along") rfl)
    d_stack_along := d.def_ 29 (d := d_stack_along) rfl
    g_shows_fault := He.glo_ok X G (d.fact 30 (f := .glo "shows_fault") rfl)
    d_shows_fault := d.def_ 30 (d := d_shows_fault) rfl
    g_is_accepted := He.glo_ok X G (d.fact 31 (f := .glo "is_accepted") rfl)
    d_is_accepted := d.def_ 31 (d := d_is_accepted) rfl
    g__law_deal := He.glo_ok X G (d.fact 32 (f := .glo "_law_deal") rfl)
    d__law_deal := d.def_ 32 (d := d_law_deal) rfl
    g__law_take := He.glo_ok X G (d.fact 33 (f := .glo "_law_take") rfl)
    d__law_take := d.def_ 33 (d := d_law_take) rfl
    g__law_same := He.glo_ok X G (d.fact 34 (f := .glo "_law_same") rfl)
    d__law_same := d.def_ 34 (d := d_law_same) rfl
    g__law_bool := He.glo_ok X G (d.fact 35 (f := .glo "_law_bool") rfl)
    d__law_bool := d.def_ 35 (d := d_law_bool) rfl
    g__law_pick := He.glo_ok X G (d.fact 36 (f := .glo "_law_pick") rfl)
    d__law_pick := d.def_ 36 (d := d_law_pick) rfl
    g__law_word := He.glo_ok X G (d.fact 37 (f := .glo "_law_word") rfl)
    d__law_word := d.def_ 37 (d := d_law_word) rfl
    g__law_expr := He.glo_ok X G (d.fact 38 (f := .glo "_law_expr") rfl)
    d__law_expr := d.def_ 38 (d := d_law_expr) rfl
    g__law_statement := He.glo_ok X G (d.fact 39 (f := .glo "_law_statement") rfl)
    d__law_statement := d.def_ 39 (d := d_law_statement) rfl
    g__law_tree := He.glo_ok X G (d.fact 40 (f := .glo "_law_tree") rfl)
    d__law_tree := d.def_ 40 (d := d_law_tree) rfl
    g__law_code := He.glo_ok X G (d.fact 41 (f := .glo "_law_code") rfl)
    d__law_code := d.def_ 41 (d := d_law_code) rfl
    g__law_statement_code := He.glo_ok X G (d.fact 42 (f := .glo "_law_statement_code") rfl)
    d__law_statement_code := d.def_ 42 (d := d_law_statement_code) rfl
    g__law_body_code := He.glo_ok X G (d.fact 43 (f := .glo "_law_body_code") rfl)
    d__law_body_code := d.def_ 43 (d := d_law_body_code) rfl
    g__law_main_code := He.glo_ok X G (d.fact 44 (f := .glo "_law_main_code") rfl)
    d__law_main_code := d.def_ 44 (d := d_law_main_code) rfl
    g__law_parts := He.glo_ok X G (d.fact 45 (f := .glo "_law_parts") rfl)
    d__law_parts := d.def_ 45 (d := d_law_parts) rfl
    g__law_drawn := He.glo_ok X G (d.fact 46 (f := .glo "_law_drawn") rfl)
    d__law_drawn := d.def_ 46 (d := d_law_drawn) rfl
    g__law_function := He.glo_ok X G (d.fact 47 (f := .glo "_law_function") rfl)
    d__law_function := d.def_ 47 (d := d_law_function) rfl
    g__law_behind := He.glo_ok X G (d.fact 48 (f := .glo "_law_behind") rfl)
    d__law_behind := d.def_ 48 (d := d_law_behind) rfl
    g__law_steps := He.glo_ok X G (d.fact 49 (f := .glo "_law_steps") rfl)
    d__law_steps := d.def_ 49 (d := d_law_steps) rfl
    g__law_map := He.glo_ok X G (d.fact 50 (f := .glo "_law_map") rfl)
    d__law_map := d.def_ 50 (d := d_law_map) rfl
    g__law_along := He.glo_ok X G (d.fact 51 (f := .glo "_law_along") rfl)
    d__law_along := d.def_ 51 (d := d_law_along) rfl
    g__law_fault := He.glo_ok X G (d.fact 52 (f := .glo "_law_fault") rfl)
    d__law_fault := d.def_ 52 (d := d_law_fault) rfl
    g__law_least := He.glo_ok X G (d.fact 53 (f := .glo "_law_least") rfl)
    d__law_least := d.def_ 53 (d := d_law_least) rfl
    g__law_changed_map := He.glo_ok X G (d.fact 54 (f := .glo "_law_changed_map") rfl)
    d__law_changed_map := d.def_ 54 (d := d_law_changed_map) rfl
    g_law := He.glo_ok X G (d.fact 55 (f := .glo "law") rfl)
    d_law := d.def_ 55 (d := d_law) rfl
  }
end K02
open PySem PySem.W PySem.Calls PyProof.Rows in
theorem K02.holds (hm : ∀ ns : List Int, ns.length ≤ 63 → ∃ S', K02.m_law [VM.A.lst (ns.map .int)] [] = .ok (.bl true) S') : PySem.Challenge.rw_partsrun_k02_whole_map_or_fault.Holds := by
  w_on; o_law
  refine HandSHeadRun.head_any (r := OpenLaw.row PySem.Challenge.rw_partsrun_k02_whole_map_or_fault) (q := view (OpenLaw.row PySem.Challenge.rw_partsrun_k02_whole_map_or_fault).prog [78]) (H := K02.hk) (ob := K02.ob) (M := 3000) (loose := K02.loose) (d := HandSHeadRun.topDef (OpenLaw.row PySem.Challenge.rw_partsrun_k02_whole_map_or_fault).prog 78) (kwd := []) K02.ob_eq
    (by kernel_rfl) (fun s => by kernel_rfl) K02.run (by kernel_rfl) (by kernel_rfl) (by kernel_rfl) (by rfl) (by first | assumption | decide +kernel) (by decide +kernel) ⟨rfl, rfl, rfl, rfl, rfl, by decide +kernel⟩ ?hw ?hc
  case hw => w_witness2
  case hc =>
    refine VM.walk_vm (l := PySem.Challenge.rw_partsrun_k02_whole_map_or_fault) (n := 63) (k := 14) (x := "script") (m := K02.m_law) rfl (by decide) (by kernel_rfl) ⟨rfl, by decide, by decide⟩ ?F hm
    intro w mg fa h Y G hmg0
    obtain ⟨K, KX, c⟩ := Y
    have hmg : mg ("law" : PySem.Str) = some (.ref fa) := by
      have e : (HandSHeadRun.topDef (OpenLaw.row PySem.Challenge.rw_partsrun_k02_whole_map_or_fault).prog 78).name = ("law" : PySem.Str) := by kernel_rfl
      rw [← e]
      exact hmg0
    have T := K02.facts KX G c
    have e := hmg.symm.trans T.g_law
    cases e
    obtain ⟨fd, F⟩ := T.d_law
    have b := L2.FunD.bindsA (ps := ["script"]) F fun _ _ _ _ _ _ us hl => match us, hl with | [_], _ => rfl
    exact ⟨K, fd, KX, fun s v => b s [v] rfl, fun base _ _ => K02.H_law T F⟩
end
theorem PySem.Challenge.cw_partsrun_k02_whole_map_or_fault_holds : PySem.Challenge.rw_partsrun_k02_whole_map_or_fault.Holds := by
  exact K02.holds K02.law_true
